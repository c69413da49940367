/- AxTop: a call from outside: a4m old block is immutable. -/
import Derived.Test.YtmiegcjnimlbmaaGreatDoorAxC
import Derived.Below
import GoSem.ClaimChange
import GoSem.ClaimJoined
import Derived.RowKit
import Derived.ChangeSame
import Derived.Carry
import Derived.IntWalk
import Derived.KernelRfl
set_option linter.unusedSimpArgs false
set_option linter.unusedVariables false
namespace Go.Ax
open Go.RowKit
def Old(w:World):Nat->Prop:=λc=>c<w.heap.size
def Holds(E:Env)(w:World):Prop:=∀g cs,E.G g=some cs->g<w.heap.size∧VAt (Old w) w noP cs g 0
theorem e57{E:Env}{f:FuncId}{run:List AV->a03->Option (AV×a03)}(pM:f≠yId)(hf:a9a E f run){args:List AV}{v:AV}{H':a03}(h:run args []=some (v,H')){w:World}(hG:Holds E w){an:List Value}(ha:VRels (Old w) w noP args an) :
 Calls E.P f an.toArray w λen w'=>∃c I' ρ',en = .returned c∧Below w.heap.size w w'∧VRel I' w' ρ' v c:=by
 have rel:HRel E.G (Old w) (λ_=>False) noP (a02 []) w:=by
  refine⟨?_,?_,?_,λc hc=>hc,λc hc=>hc.elim,λ_ _ h=>h,hG⟩
  ·intro b o hb;simp[a02]at hb
  ·intro b b' m m' hb;simp[a02]at hb
  ·intro b m hb;simp[noP]at hb
 have h0:=hf args [] v H' h (Old w) (λ_=>False) noP w an rel (λ_ _=>rfl) ha;rw[b2y pM]at h0;refine Calls.mono h0 ?_
 rintro en w' ⟨c,I',ρ',rfl,aE,hv⟩
 exact⟨c,I',ρ',rfl,⟨aE.ext.os,aE.ext.tape,aE.ext.output,aE.ext.size,λk hk=>aE.ext.keep k (.inl hk)⟩,hv⟩
theorem d5e{E:Env}{f:FuncId}{run:List AV->a03->Option (AV×a03)}(pM:f≠yId)(hf:a9a E f run){args:List AV}{H':a03}(h:run args []=some (.bool true,H')){w:World}(hG:Holds E w){an:List Value}(ha:VRels (Old w) w noP args an) :
 Calls E.P f an.toArray w λen w'=>en = .returned (.bool true)∧Below w.heap.size w w':=by
 refine(e57 pM hf h hG ha).mono ?_
 rintro en w' ⟨c,I',ρ',rfl,hb,hv⟩
 simp only[VRel]at hv;subst hv;exact⟨rfl,hb⟩
end Go.Ax
/- AxRead: what the row's reading of an argument gives: abstract values of the argument's type. -/
namespace Go.Ax
def Typ(E:Env):Nat->TypeId->List AV->Prop
 |0,_,_=>False
 |n+1,t,aQ=>match E.und t with
  |some .bool=>∃b,aQ=[.bool b]
  |some (.int k)=>∃i,aQ=[.int k i]∧(Lit.int k i).wf=true
  |some .string=>∃s,aQ=[.str s]∧s.length<=maxLen
  |some (.slice e)=>aQ=[.nilslice]∨∃aa cap,aQ=[.islice aa (some cap)]∧aa.length<=cap∧cap<=maxLen∧∀r∈aa,r.length=E.sz e∧Typ E n e r
  |some (.struct fs)=>∃aq:List (List AV),aQ=aq.flatten∧aq.length=fs.toList.length∧∀(i:Nat) f p,fs.toList[i]?=some f->aq[i]?=some p->p.length=E.sz f.type∧Typ E n f.type p
  |some (.array m e)=>∃aq:List (List AV),aQ=aq.flatten∧aq.length=m∧∀p∈aq,p.length=E.sz e∧Typ E n e p
  |_=>False
def d04(E:Env):Nat->List Field->Option Nat
 |o,[]=>some o
 |o,f::r=>bif Nat.beq f.offset o then d04 E (o+E.sz f.type) r else none
def a5j(E:Env):Nat->TypeId->Bool
 |0,_=>false
 |n+1,t=>match E.und t with
  |some .bool=>true
  |some (.int _)=>true
  |some .string=>true
  |some (.slice e)=>(E.und e).isSome&&Nat.blt 0 (E.sz e)&&a5j E n e
  |some (.struct fs)=>(match d04 E 0 fs.toList with|some m=>Nat.beq m (E.sz t)|none=>false)&&fs.toList.all (λf=>(E.und f.type).isSome&&a5j E n f.type)
  |some (.array m e)=>(E.und e).isSome&&Nat.beq (m*E.sz e) (E.sz t)&&a5j E n e
  |_=>false
section
variable {E:Env}{w:World}{H:Type}{enc:TypeId×Value->H}{base:Nat}{dp:Nat->Bool}{ee:Bool}
theorem a4k(ok:EnvOk E){t:TypeId}{d:TypeDesc}(h:E.und t=some d):E.P.cellsOf t=E.sz t:=by obtain⟨_,i,hi,h1,_⟩:=ok.und t d h;simp[Program.cellsOf,hi,h1]
theorem d0v{I:Nat->Prop}{k:Nat}{b:Nat}{Pr:List AV->Prop}:∀(len off:Nat),(∀i,i<len->∃r,Pr r∧r.length=k∧VAt I w noP r b (off+i*k))->
 ∃aa:List (List AV),aa.length=len∧(∀r∈aa,r.length=k∧Pr r)∧VRows I w k noP aa b off
 |0,off,_=>⟨[],rfl,by simp,by simp[VRows]⟩
 |len+1,off,h=>by
  obtain⟨r,h1,h2,h3⟩:=h 0 (by omega);obtain⟨aa,g1,g2,g3⟩:=d0v (Pr:=Pr) len (off+k) (λi hi=>by obtain⟨r,q1,q2,q3⟩:=h (i+1) (by omega);refine⟨r,q1,q2,?_⟩;rw[show off+k+i*k=off+(i+1)*k by rw[f8g];omega];exact q3);refine⟨r::aa,by simp[g1],?_,?_⟩
  ·intro x hx;simp only[f4h]at hx;rcases hx with rfl|hx
   ·exact⟨h2,h1⟩
   ·exact g2 x hx
  ·simp only[VRows];exact⟨h2,by simpa using h3,g3⟩
theorem c5e{I:Nat->Prop}{cs:List Value}{n:Nat}:∀(fs:List Field) (o:Nat) {m:Nat},d04 E o fs=some m->m<=cs.length->
 (∀f∈fs,∃aQ,VRels I w noP aQ ((cs.drop f.offset).take (E.sz f.type))∧Typ E n f.type aQ)->
 o<=m∧∃aq:List (List AV),aq.length=fs.length∧(∀(i:Nat) f p,fs[i]?=some f->aq[i]?=some p->p.length=E.sz f.type∧Typ E n f.type p)∧VRels I w noP aq.flatten ((cs.drop o).take (m-o))
 | [],o,m,ht,hm,_=>by simp only[d04,Option.some.injEq]at ht;subst ht;exact⟨f2q _,[],rfl,by simp,by simp[VRels]⟩
 |f::r,o,m,ht,hm,h=>by
  simp only[d04,cond_eq_ite]at ht;split at ht
  case isFalse=>cases ht
  rename_i gW;have gW:f.offset=o:=by simpa using gW
  obtain⟨bf,aq,h1,h2,h3⟩:=c5e r (o+E.sz f.type) ht hm (λg hg=>h g (by simp[hg]));obtain⟨aQ,g1,g2⟩:=h f (by simp);rw[gW]at g1;have ak:aQ.length=E.sz f.type:=by have:=VRels.length g1;rw[this];simp;omega
  refine⟨by omega,aQ::aq,by simp[h1],?_,?_⟩
  ·intro i g p hg hp;cases i with
   |zero=>simp only[f4z,Option.some.injEq]at hg hp;subst hg;subst hp;exact⟨ak,g2⟩
   |succ i=>simp only[f4r]at hg hp;exact h2 i g p hg hp
  ·simp only[f7a];have:(cs.drop o).take (m-o)=(cs.drop o).take (E.sz f.type)++(cs.drop (o+E.sz f.type)).take (m-(o+E.sz f.type)):=by
    rw[show m-o=E.sz f.type+(m-(o+E.sz f.type)) by omega,List.take_add,List.drop_drop]
   rw[this];exact VRels.append g1 h3
theorem d9q{I:Nat->Prop}{cs:List Value}{n k:Nat}{e:TypeId}:∀(m o:Nat),o+m*k<=cs.length->
 (∀i,i<m->∃aQ,VRels I w noP aQ ((cs.drop (o+i*k)).take k)∧Typ E n e aQ)->
 ∃aq:List (List AV),aq.length=m∧(∀p∈aq,p.length=k∧Typ E n e p)∧VRels I w noP aq.flatten ((cs.drop o).take (m*k))
 |0,o,_,_=>⟨[],rfl,by simp,by simp[VRels]⟩
 |m+1,o,hl,h=>by
  have kT:(m+1)*k=k+m*k:=by rw[f8g];omega
  obtain⟨aq,h1,h2,h3⟩:=d9q (cs:=cs) (k:=k) (e:=e) m (o+k) (by omega) (λi hi=>by obtain⟨aQ,g1,g2⟩:=h (i+1) (by omega);refine⟨aQ,?_,g2⟩;rw[show o+k+i*k=o+(i+1)*k by rw[f8g];omega];exact g1);obtain⟨aQ,g1,g2⟩:=h 0 (by omega);rw[Nat.zero_mul,f8z]at g1;have ak:aQ.length=k:=by have:=VRels.length g1;rw[this];simp;omega
  refine⟨aQ::aq,by simp[h1],?_,?_⟩
  ·intro p hp;simp only[f4h]at hp;rcases hp with rfl|hp
   ·exact⟨ak,g2⟩
   ·exact h2 p hp
  ·simp only[f7a];rw[kT,List.take_add,List.drop_drop];exact VRels.append g1 h3
theorem b97{α β:Type}{f:α->Option β}{l:List α}{r:List β}(h:l.mapM f=some r):∀x∈l,∃y,f x=some y:=by
 induction l generalizing r with
 |nil=>simp
 |cons a l ih=>
  rw[List.mapM_cons]at h;intro x hx;cases gz:f a with
  |none=>simp[gz]at h
  |some y=>
   simp only[gz,Option.bind_eq_bind,f7s]at h;cases hl:l.mapM f with
   |none=>simp[hl]at h
   |some r'=>
    simp only[f4h]at hx;rcases hx with rfl|hx
    ·exact⟨y,gz⟩
    ·exact ih hl x hx
theorem b61{I:Nat->Prop}{aQ:List AV}{cs:List Value}{b off:Nat}(hc:∀i v,cs[i]?=some v->w.cell? ⟨b,off+i,none⟩=some v)(h:VRels I w noP aQ cs):VAt I w noP aQ b off:=VAt.of_cells (λi v hv=>hc i v hv) h
theorem d13(ok:EnvOk E):∀(n:Nat) (t:TypeId),a5j E n t=true->∀(a8:Nat) (cs:List Value) (x:DataW H×List MemPlace),DataW.trod enc E.P w base dp ee a8 t cs=some x->
 ∃aQ,VRels (Old w) w noP aQ cs∧Typ E n t aQ
 |0,t,hr=>by simp[a5j]at hr
 |n+1,t,hr=>by
  intro a8 cs x h;cases a8 with
  |zero=>simp[DataW.trod]at h
  |succ a8=>
  have ih:=d13 ok n;unfold a5j at hr;unfold DataW.trod at h;cases hu:E.und t with
  |none=>rw[hu]at hr;simp at hr
  |some d=>
   have hP:=(ok.und t d hu).1;have cj:=a4k ok hu;rw[hu]at hr;rw[hP]at h;cases d<;>simp only[f6t]at hr
   case bool=>
    obtain⟨b,rfl⟩:∃b,cs=[.bool b]:=by split at h<;>simp_all
    exact⟨[.bool b],by simp[VRels,VRel],by simp[Typ,hu]⟩
   case int k=>
    obtain⟨i,rfl,hw⟩:∃i,cs=[.int k i]∧(Lit.int k i).wf=true:=by split at h<;>simp_all
    exact⟨[.int k i],by simp[VRels,VRel],by simp[Typ,hu,hw]⟩
   case string=>
    obtain⟨b,rfl,hw⟩:∃b:ByteArray,cs=[.string b]∧b.size<=maxLen:=by split at h<;>simp_all
    exact⟨[.str b.data.toList],by simp[VRels,VRel],by simp only[Typ,hu];exact⟨_,rfl,by simpa using hw⟩⟩
   case slice e=>
    simp only[f1d,f4o]at hr;obtain⟨⟨dM,iH⟩,od⟩:=hr;obtain⟨de,bu⟩:=f1j.1 dM;have iB:=a4k ok bu;have cU:cs=[.slice none 0 0]∨∃a len cap,cs=[.slice (some a) len cap]∧len<=cap∧cap<=maxLen∧
     ∃eM,((List.range len).mapM λi=>(w.cells? base (a.add (i*E.P.cellsOf e)) (E.P.cellsOf e)).bind (DataW.trod enc E.P w base dp ee a8 e))=some eM:=by
     split at h
     all_goals first|(rename_i cS;cases cS;done)|(cases h;done)|skip
     ·left;rfl
     ·rename_i e' a len cap cS;cases cS;dsimp only at h;split at h
      case isFalse=>cases h
      rename_i hc;right;refine⟨a,len,cap,rfl,hc.2.1,hc.2.2,?_⟩;cases hm:((List.range len).mapM λi=>(w.cells? base (a.add (i*E.P.cellsOf e)) (E.P.cellsOf e)).bind (DataW.trod enc E.P w base dp ee a8 e))with
      |none=>rw[hm]at h;simp at h
      |some eM=>exact⟨eM,rfl⟩
    rcases cU with rfl|⟨a,len,cap,rfl,ot,bv,eM,lN⟩
    ·exact⟨[.nilslice],by simp[VRels,VRel],by simp only[Typ,hu];exact .inl trivial⟩
    ·have gd:∀i,i<len->∃r,Typ E n e r∧r.length=E.sz e∧VAt (Old w) w noP r a.block (a.off+i*E.sz e)∧a.spot=none∧a.block<w.heap.size:=by
      have bO:∀i,i<len->∃aO y,aO.length=E.sz e∧(∀j,j<E.sz e->w.cell? ((a.add (i*E.sz e)).add j)=aO[j]?)∧DataW.trod enc E.P w base dp ee a8 e aO=some y:=by
       intro i hi;obtain⟨y,hy⟩:=b97 lN i (by simpa using hi);rw[iB]at hy;cases hc:w.cells? base (a.add (i*E.sz e)) (E.sz e)with
       |none=>rw[hc]at hy;simp at hy
       |some aO=>rw[hc]at hy;obtain⟨_,h2,h3⟩:=World.cells?_some hc;exact⟨aO,y,h2,h3,by simpa using hy⟩
      intro i hi;have fR:a.spot=none∧a.block<w.heap.size:=by
       obtain⟨qS,y0,h1,h2,_⟩:=bO 0 (by omega);have h3:=h2 0 iH;rw[Nat.zero_mul,show(a.add 0).add 0=a from by simp[Addr.add],z9e (by omega)]at h3;unfold World.cell? at h3;split at h3
       ·rename_i hb;refine⟨?_,(f5b.1 hb).1⟩;cases hs:a.spot with
        |none=>rfl
        |some _=>rw[hs]at h3;simp at h3
       ·cases h3
      obtain⟨aO,y,h1,h2,h3⟩:=bO i hi;obtain⟨r,q1,q2⟩:=ih e od a8 aO y h3;refine⟨r,q2,by rw[VRels.length q1,h1],b61 ?_ q1,fR⟩;intro j v hv;have hj:j<E.sz e:=by rw[<-h1];exact(f1i.1 hv).1
      have:=h2 j hj;rw[hv]at this;rw[<-this]
      congr 1
      obtain⟨ab,ao,as⟩:=a;obtain⟨rfl,_⟩:=fR;unfold Addr.add;split<;>split<;>simp_all
     obtain⟨aa,g1,g2,g3⟩:=d0v (Pr:=Typ E n e) len a.off (λi hi=>by obtain⟨r,q1,q2,q3,_⟩:=gd i hi;exact⟨r,q1,q2,q3⟩);refine⟨[.islice aa (some cap)],?_,by simp only[Typ,hu];exact .inr ⟨aa,cap,rfl,by omega,bv,g2⟩⟩;simp only[VRels];refine⟨_,[],rfl,?_,rfl⟩;simp only[VRel];refine⟨a,cap,E.sz e,by rw[g1],by omega,by simp,?_⟩;cases len with
     |zero=>exact .inl (List.length_eq_zero_iff.1 g1)
     |succ len=>obtain⟨_,_,_,_,q4,q5⟩:=gd 0 (by omega);exact .inr ⟨q4,q5,g3⟩
   case struct fs=>
    simp only[f1d,f4l]at hr;obtain⟨dM,iH⟩:=hr;split at dM
    case h_2=>cases dM
    rename_i m hm;have vO:m=E.sz t:=by simpa using dM
    have cU:cs.length=E.P.cellsOf t∧∃xs,(fs.toList.mapM λf=>DataW.trod enc E.P w base dp ee a8 f.type ((cs.drop f.offset).take (E.P.cellsOf f.type)))=some xs:=by
     dsimp only at h;split at h
     ·rename_i hl;obtain⟨xs,cg,_⟩:=a08 h;exact⟨hl,xs,cg⟩
     ·cases h
    obtain⟨ak,xs,cg⟩:=cU;obtain⟨_,aq,h1,h2,h3⟩:=c5e (E:=E) (I:=Old w) (w:=w) (cs:=cs) (n:=n) fs.toList 0 hm (by omega) (λf hf=>by obtain⟨y,hy⟩:=b97 cg f hf;have h2:=iH f hf;obtain⟨df,mE⟩:=f1j.1 h2.1;rw[a4k ok mE]at hy;exact ih f.type h2.2 a8 _ _ hy);refine⟨aq.flatten,?_,by simp only[Typ,hu];exact⟨aq,rfl,h1,h2⟩⟩;rw[f6s,Nat.sub_zero,f1k (by omega)]at h3;exact h3
   case array m e=>
    simp only[f1d]at hr;obtain⟨⟨dM,iH⟩,od⟩:=hr;obtain⟨de,bu⟩:=f1j.1 dM;have iB:=a4k ok bu;have kT:m*E.sz e=E.sz t:=by simpa using iH
    have cU:cs.length=E.P.cellsOf t∧∃xs,((List.range m).mapM λi=>DataW.trod enc E.P w base dp ee a8 e ((cs.drop (i*E.P.cellsOf e)).take (E.P.cellsOf e)))=some xs:=by
     dsimp only at h;split at h
     ·rename_i hl;obtain⟨xs,cg,_⟩:=a08 h;exact⟨hl,xs,cg⟩
     ·cases h
    obtain⟨ak,xs,cg⟩:=cU;obtain⟨aq,h1,h2,h3⟩:=d9q (E:=E) (I:=Old w) (w:=w) (cs:=cs) (n:=n) (k:=E.sz e) (e:=e) m 0 (by omega) (λi hi=>by obtain⟨y,hy⟩:=b97 cg i (by simpa using hi);rw[iB]at hy;rw[f2u];exact ih e od a8 _ _ hy);refine⟨aq.flatten,?_,by simp only[Typ,hu];exact⟨aq,rfl,h1,h2⟩⟩;rw[f6s,f1k (by omega)]at h3;exact h3
end
end Go.Ax
/- AxArgs: a row's arguments as abstract values. -/
namespace Go.Ax
def e50(E:Env)(n:Nat)(t:TypeId)(av:AV):Prop:=
 match E.und t with
 |some d=>bif a2m d then ∃aQ,av = .agg aQ∧Typ E n t aQ else Typ E n t [av]
 |none=>False
def TypAs(E:Env)(n:Nat):List TypeId->List AV->Prop
 | [],aQ=>aQ=[]
 |t::ts,aQ=>∃a r,aQ=a::r∧e50 E n t a∧TypAs E n ts r
section
variable {E:Env}{w:World}{H:Type}{enc:TypeId×Value->H}{dp:Nat->Bool}{ee:Bool}{b0:Nat}
theorem e7u(ok:EnvOk E){n:Nat}{t:TypeId}{v:Value}{d:DataW H}{ps:List MemPlace}(hr:a5j E n t=true)(hv:Value.okWide E.P w .any b0 t v)(h:DataW.Trod enc E.P w 0 dp ee t v d ps) :
 ∃a,VRel (Old w) w noP a v∧e50 E n t a:=by
 obtain⟨a8,hf⟩:=h;obtain⟨aQ,h1,h2⟩:=d13 ok n t hr a8 _ _ hf;cases hu:E.und t with
 |none=>cases n<;>simp[a5j,hu]at hr
 |some dd=>
  have hP:=(ok.und t dd hu).1;unfold Value.okWide at hv;rw[hP]at hv;cases eo:a2m dd with
  |true=>
   have hv:∃cs,v = .agg cs∧cs.size=E.P.cellsOf t∧Row.okWide E.P w .any b0 t cs:=by cases dd<;>simp[a2m]at eo<;>exact hv
   obtain⟨cs,rfl,_,_⟩:=hv;exact⟨.agg aQ,by simp only[VRel];exact⟨cs,rfl,h1⟩,by simp only[e50,hu,eo,f2v];exact⟨aQ,rfl,h2⟩⟩
  |false=>
   have cZ:v.cells = #[v]:=by
    cases v with
    |agg cs=>exfalso;cases dd<;>simp[a2m]at eo<;>simp[Cell.okWide,Cell.ok,hP]at hv
    |_=>rfl
   rw[cZ]at h1;have h3:=h1;obtain⟨a,rfl⟩:∃a,aQ=[a]:=by
    have:=VRels.length h1
    match aQ,this with
    | [a],_=>exact⟨a,rfl⟩
   simp only[VRels]at h3;obtain⟨c,_,hc,h4,rfl⟩:=h3;simp only[List.cons.injEq,f8s]at hc;subst hc;exact⟨a,h4,by simp only[e50,hu,eo,f4i];exact h2⟩
theorem d47(ok:EnvOk E){n:Nat}:∀(ts:List TypeId) (vs:List Value) (ds:List (DataW H)) (ps:List MemPlace),DataW.TrodAll enc E.P w 0 dp ee ts vs ds ps->
 (∀(j:Nat) t v,ts[j]?=some t->vs[j]?=some v->Value.okWide E.P w .any b0 t v)->(ts.all (a5j E n))=true->∃args,VRels (Old w) w noP args vs∧TypAs E n ts args
 | [],vs,ds,ps,h,_,_=>by
  cases vs with
  |nil=>exact⟨[],by simp[VRels],rfl⟩
  |cons v vs=>cases ds<;>simp[DataW.TrodAll]at h
 |t::ts,vs,ds,ps,h,hv,hr=>by
  cases vs with
  |nil=>cases ds<;>simp[DataW.TrodAll]at h
  |cons v vs=>
   cases ds with
   |nil=>simp[DataW.TrodAll]at h
   |cons d ds=>simp only[DataW.TrodAll]at h;obtain⟨p,q,h1,h2,_⟩:=h;simp only[List.all_cons,f1d]at hr;obtain⟨a,g1,g2⟩:=e7u ok hr.1 (hv 0 t v rfl rfl) h1;obtain⟨r,g3,g4⟩:=d47 ok ts vs ds q h2 (λj t v ht ux=>hv (j+1) t v (by simpa using ht) (by simpa using ux)) hr.2;exact⟨a::r,by simp only[VRels];exact⟨v,vs,rfl,g1,g3⟩,⟨a,r,rfl,g2,g4⟩⟩
end
end Go.Ax
/- AxLaid: what a listed package-level variable d64 as, as abstract cells. -/
namespace Go.Ax
def c6b(E:Env)(f:TypeId->DataW Unit->Option (List AV)):Nat->List Field->List (DataW Unit)->Option (List AV)
 |_,[],[]=>some []
 |o,x::fs,d::ds=>bif Nat.beq x.offset o&&(E.und x.type).isSome then
  match f x.type d,c6b E f (o+E.sz x.type) fs ds with
  |some a,some b=>bif Nat.beq a.length (E.sz x.type)then some (a++b)else none
  |_,_=>none
  else none
 |_,_,_=>none
def b5g(k:Nat)(f:DataW Unit->Option (List AV)):List (DataW Unit)->Option (List (List AV))
 | []=>some []
 |d::ds=>match f d,b5g k f ds with
  |some a,some b=>bif Nat.beq a.length k then some (a::b)else none
  |_,_=>none
def b6i(E:Env):Nat->TypeId->DataW Unit->Option (List AV)
 |0,_,_=>none
 |n+1,t,d=>match E.und t,d with
  |some .bool,.lit (.bool b)=>some [.bool b]
  |some (.int k),.lit (.int k' i)=>bif k==k' then some [.int k i]else none
  |some .string,.lit (.string s)=>some [.str s]
  |some (.struct fs),.agg ds=>match c6b E (b6i E n) 0 fs.toList ds with
   |some aQ=>bif Nat.beq aQ.length (E.sz t)then some aQ else none
   |none=>none
  |some (.array m e),.agg ds=>bif (E.und e).isSome&&Nat.beq (m*E.sz e) (E.sz t)&&Nat.beq ds.length m then(b5g (E.sz e) (b6i E n e) ds).map List.flatten else none
  |some (.slice _),.nil=>some [.nilslice]
  |some (.slice e),.slice es dp=>bif (E.und e).isSome&&Nat.blt 0 (E.sz e)&&Nat.blt 0 es.length then(b5g (E.sz e) (b6i E n e) es).map λaa=>[.islice aa (some (es.length+dp.length))]else none
  |_,_=>none
section
variable {E:Env}{w:World}{enc:TypeId×Value->Unit}{base:Nat}{ee:Bool}
theorem a7t{α β:Type}{f:α->Option β}{a:α}{l:List α}{r:List β}(h:(a::l).mapM f=some r):∃b r',f a=some b∧l.mapM f=some r'∧r=b::r':=by
 rw[List.mapM_cons]at h;cases gz:f a with
 |none=>simp[gz]at h
 |some y=>
  simp only[gz,Option.bind_eq_bind,f7s]at h;cases hl:l.mapM f with
  |none=>simp[hl]at h
  |some r'=>simp only[hl,f7s]at h;cases h;exact⟨y,r',rfl,rfl,rfl⟩
theorem b95{α β:Type}{f:α->Option β}:∀{l:List α} {r:List β},l.mapM f=some r->r.length=l.length
 | [],r,h=>by cases h;rfl
 |a::l,r,h=>by obtain⟨b,r',_,h2,rfl⟩:=a7t h;simp[b95 h2]
theorem b96{α β:Type}{f:α->Option β}:∀{l:List α} {r:List β},l.mapM f=some r->∀(i:Nat) a,l[i]?=some a->∃b,f a=some b∧r[i]?=some b
 | [],r,h,i,a,ha=>by simp at ha
 |x::l,r,h,i,a,ha=>by
  obtain⟨b,r',h1,h2,rfl⟩:=a7t h;cases i with
  |zero=>simp only[f4z,Option.some.injEq]at ha;subst ha;exact⟨b,h1,rfl⟩
  |succ i=>simp only[f4r]at ha⊢;exact b96 h2 i a ha
theorem b1z{k:Nat}{f:DataW Unit->Option (List AV)}:∀{ds:List (DataW Unit)} {aa:List (List AV)},b5g k f ds=some aa->aa.length=ds.length
 | [],aa,h=>by cases h;rfl
 |d::ds,aa,h=>by
  simp only[b5g]at h;split at h
  case h_2=>cases h
  rename_i a b ha hb;rw[cond_eq_ite]at h;split at h
  ·cases h;simp[b1z hb]
  ·cases h
theorem b20{k:Nat}{f:DataW Unit->Option (List AV)}:∀{ds:List (DataW Unit)} {aa:List (List AV)},b5g k f ds=some aa->∀(i:Nat) d,ds[i]?=some d->∃a,f d=some a∧a.length=k∧aa[i]?=some a
 | [],aa,h,i,d,hd=>by simp at hd
 |x::ds,aa,h,i,d,hd=>by
  simp only[b5g]at h;split at h
  case h_2=>cases h
  rename_i a b ha hb;rw[cond_eq_ite]at h;split at h
  case isFalse=>cases h
  rename_i hk;cases h;cases i with
  |zero=>simp only[f4z,Option.some.injEq]at hd;subst hd;exact⟨a,ha,by simpa using hk,rfl⟩
  |succ i=>simp only[f4r]at hd⊢;exact b20 hb i d hd
theorem b5j{I:Nat->Prop}{cs:List Value}{f:TypeId->DataW Unit->Option (List AV)}{g:Field->Option (DataW Unit×List MemPlace)}
 (hg:∀x y aQ,g x=some y->f x.type y.1=some aQ->VRels I w noP aQ ((cs.drop x.offset).take (E.sz x.type))) :
 ∀(fs:List Field) (o:Nat) {xs:List (DataW Unit×List MemPlace)} {aQ:List AV},fs.mapM g=some xs->c6b E f o fs (xs.map (·.1))=some aQ->VRels I w noP aQ ((cs.drop o).take aQ.length)
 | [],o,xs,aQ,hm,hf=>by cases hm;cases hf;simp[VRels]
 |x::fs,o,xs,aQ,hm,hf=>by
  obtain⟨y,ys,h1,h2,rfl⟩:=a7t hm;simp only[f1a,c6b]at hf;rw[cond_eq_ite]at hf;split at hf
  case isFalse=>cases hf
  rename_i hc;simp only[f1d,g0j]at hc;split at hf
  case h_2=>cases hf
  rename_i a b ha hb;rw[cond_eq_ite]at hf;split at hf
  case isFalse=>cases hf
  rename_i hl;rw[g0j]at hl;cases hf;have ih:=b5j hg fs _ h2 hb;have h3:=hg x y a h1 ha;rw[hc.1,<-hl]at h3;rw[f2n,List.take_add,List.drop_drop,hl]at *;exact VRels.append h3 ih
theorem c13{I:Nat->Prop}{cs:List Value}{k:Nat}:∀(aa:List (List AV)) (o:Nat),(∀(i:Nat) r,aa[i]?=some r->r.length=k∧VRels I w noP r ((cs.drop (o+i*k)).take k))->
 VRels I w noP aa.flatten ((cs.drop o).take (aa.length*k))
 | [],o,_=>by simp[VRels]
 |r::aa,o,h=>by have h0:=h 0 r rfl;have ih:=c13 aa (o+k) (λi r hr=>by have:=h (i+1) r (by simpa using hr);rw[show o+k+i*k=o+(i+1)*k by rw[f8g];omega];exact this);simp only[f7a,f1c];rw[show(aa.length+1)*k=k+aa.length*k by rw[f8g];omega,List.take_add,List.drop_drop];refine VRels.append ?_ ih;simpa using h0.2
theorem c1t(ok:EnvOk E):∀(n:Nat) (t:TypeId) (a8:Nat) (cs:List Value) (x:DataW Unit×List MemPlace) (aQ:List AV),DataW.trod enc E.P w base (λ_=>true) ee a8 t cs=some x->b6i E n t x.1=some aQ->
 VRels (Old w) w noP aQ cs
 |0,t,a8,cs,x,aQ,_,hf=>by simp[b6i]at hf
 |n+1,t,0,cs,x,aQ,h,hf=>by simp[DataW.trod]at h
 |n+1,t,a8+1,cs,x,aQ,h,hf=>by
  have ih:=c1t ok n;unfold b6i at hf;unfold DataW.trod at h;cases hu:E.und t with
  |none=>rw[hu]at hf;simp at hf
  |some dd=>
   have hP:=(ok.und t dd hu).1;have uz:=a4k ok hu;rw[hu]at hf;rw[hP]at h;cases dd
   case bool=>
    obtain⟨b,rfl,rfl⟩:∃b,cs=[.bool b]∧x=(.lit (.bool b),[]):=by split at h<;>simp_all
    simp only[Option.some.injEq]at hf;subst hf;simp[VRels,VRel]
   case int k=>
    obtain⟨b,rfl,rfl⟩:∃b,cs=[.int k b]∧x=(.lit (.int k b),[]):=by split at h<;>simp_all
    simp only[cond_eq_ite]at hf;split at hf
    ·cases hf;simp[VRels,VRel]
    ·cases hf
   case string=>
    obtain⟨b,rfl,rfl⟩:∃b:ByteArray,cs=[.string b]∧x=(.lit (.string b.data.toList),[]):=by split at h<;>simp_all
    simp only[Option.some.injEq]at hf;subst hf;simp[VRels,VRel]
   case struct fs=>
    dsimp only at h;split at h
    case isFalse=>cases h
    rename_i hl;obtain⟨xs,cg,rfl⟩:=a08 h;dsimp only at hf;split at hf
    case h_2=>cases hf
    rename_i vE eK;rw[cond_eq_ite]at hf;split at hf
    case isFalse=>cases hf
    rename_i eT;rw[g0j]at eT;cases hf;have key:=b5j (E:=E) (I:=Old w) (w:=w) (cs:=cs) (f:=b6i E n)
     (g:=λf=>DataW.trod enc E.P w base (λ_=>true) ee a8 f.type ((cs.drop f.offset).take (E.P.cellsOf f.type))) ?_ fs.toList 0 cg eK
    ·rw[f6s,f1k (by omega)]at key;exact key
    ·intro x y aQ hy gz;have ga:∃dx,E.und x.type=some dx:=by
      cases n with
      |zero=>simp[b6i]at gz
      |succ n=>unfold b6i at gz;cases hux:E.und x.type with
       |none=>rw[hux]at gz;simp at gz
       |some dx=>exact⟨dx,rfl⟩
     obtain⟨dx,uZ⟩:=ga;rw[a4k ok uZ]at hy;exact ih x.type a8 _ y aQ hy gz
   case array m e=>
    dsimp only at h;split at h
    case isFalse=>cases h
    rename_i hl;obtain⟨xs,cg,rfl⟩:=a08 h;dsimp only at hf;rw[cond_eq_ite]at hf;split at hf
    case isFalse=>cases hf
    rename_i hc;simp only[f1d,g0j]at hc;obtain⟨aa,aA,rfl⟩:=a08 hf;obtain⟨de,bu⟩:=f1j.1 hc.1.1;have iB:=a4k ok bu;have ak:aa.length=m:=by rw[b1z aA];simpa using hc.2
    have key:=c13 (I:=Old w) (w:=w) (cs:=cs) (k:=E.sz e) aa 0 (λi r hr=>by
     have hi:i<m:=by rw[<-ak];exact(f1i.1 hr).1
     obtain⟨y,hy,q7⟩:=b96 cg i i (by simp[hi]);obtain⟨a,ha,io,p8⟩:=b20 aA i y.1 (by simp[q7]);rw[hr]at p8;cases p8;refine⟨io,?_⟩;rw[f2u];rw[iB]at hy;exact ih e a8 _ y r hy ha)
    rw[f6s,f1k (by rw[ak];omega)]at key;exact key
   case slice e=>
    split at h
    all_goals first|(rename_i cS;cases cS;done)|(cases h;done)|skip
    ·cases h;simp only[Option.some.injEq]at hf;subst hf;simp[VRels,VRel]
    ·rename_i e' a len cap cS;cases cS;dsimp only at h;split at h
     case isFalse=>cases h
     rename_i hc;cases hm:((List.range len).mapM λi=>(w.cells? base (a.add (i*E.P.cellsOf e)) (E.P.cellsOf e)).bind (DataW.trod enc E.P w base (λ_=>true) ee a8 e))with
     |none=>rw[hm]at h;simp at h
     |some eM=>
      rw[hm]at h;simp only[f7s,f7i]at h;obtain⟨al,du,rfl⟩:=a08 h;dsimp only at hf;rw[cond_eq_ite]at hf;split at hf
      case isFalse=>cases hf
      rename_i eg;simp only[f1d,f4o,c10]at eg;obtain⟨aa,aA,rfl⟩:=a08 hf;obtain⟨de,bu⟩:=f1j.1 eg.1.1;have iB:=a4k ok bu;have nj:aa.length=eM.length:=by rw[b1z aA];simp
      have bf:eM.length=len:=by rw[b95 hm];simp
      have rH:al.length=cap-len:=by rw[b95 du];simp
      have bO:∀i,i<len->∃aO y,eM[i]?=some y∧aO.length=E.sz e∧(∀j,j<E.sz e->w.cell? ((a.add (i*E.sz e)).add j)=aO[j]?)∧DataW.trod enc E.P w base (λ_=>true) ee a8 e aO=some y:=by
       intro i hi;obtain⟨y,hy,q7⟩:=b96 hm i i (by simp[hi]);rw[iB]at hy;cases cL:w.cells? base (a.add (i*E.sz e)) (E.sz e)with
       |none=>rw[cL]at hy;simp at hy
       |some aO=>rw[cL]at hy;obtain⟨_,h2,h3⟩:=World.cells?_some cL;exact⟨aO,y,q7,h2,h3,by simpa using hy⟩
      have fR:a.spot=none∧a.block<w.heap.size:=by
       obtain⟨qS,y0,_,h1,h2,_⟩:=bO 0 (by omega);have h3:=h2 0 eg.1.2;rw[Nat.zero_mul,show(a.add 0).add 0=a from by simp[Addr.add],z9e (by omega)]at h3;unfold World.cell? at h3;split at h3
       ·rename_i hb;refine⟨?_,(f5b.1 hb).1⟩;cases hs:a.spot with
        |none=>rfl
        |some _=>rw[hs]at h3;simp at h3
       ·cases h3
      simp only[VRels];refine⟨_,[],rfl,?_,rfl⟩;simp only[VRel];refine⟨a,cap,E.sz e,by rw[nj,bf],by omega,λn hn=>by cases hn;simp;omega,.inr ⟨fR.1,fR.2,?_⟩⟩;have key:∀(bm:List (List AV)) (o:Nat),(∀(i:Nat) r,bm[i]?=some r->r.length=E.sz e∧VAt (Old w) w noP r a.block (a.off+(o+i)*E.sz e))->VRows (Old w) w (E.sz e) noP bm a.block (a.off+o*E.sz e):=by
       intro bm
       induction bm with
       |nil=>intro o _;simp[VRows]
       |cons r rs ihr=>intro o hh;have h0:=hh 0 r rfl;simp only[VRows];refine⟨h0.1,by simpa using h0.2,?_⟩;rw[show a.off+o*E.sz e+E.sz e=a.off+(o+1)*E.sz e by rw[f8g];omega];refine ihr (o+1) (λi r hr=>?_);have:=hh (i+1) r (by simpa using hr);rw[show o+1+i=o+(i+1) by omega];exact this
      have:=key aa 0 (λi r hr=>by
       have hi:i<len:=by rw[<-bf,<-nj];exact(f1i.1 hr).1
       obtain⟨aO,y,h0,h1,h2,h3⟩:=bO i hi;obtain⟨av,ha,io,p8⟩:=b20 aA i y.1 (by simp[h0]);rw[hr]at p8;cases p8;refine⟨io,?_⟩;rw[f2u];refine b61 ?_ (ih e a8 _ y r h3 ha);intro j v hv;have hj:j<E.sz e:=by rw[<-h1];exact(f1i.1 hv).1
       have:=h2 j hj;rw[hv]at this;rw[<-this]
       congr 1
       obtain⟨ab,ao,as⟩:=a;obtain⟨rfl,_⟩:=fR;unfold Addr.add;split<;>split<;>simp_all)
      simpa using this
   all_goals (simp only at hf;first|(cases hf;done)|(split at hf<;>cases hf))
theorem holds_of_laid(ok:EnvOk E){laid:List (String×DataW Unit)}(h:laidMet E.P laid w)
 (hG:∀g cs,E.G g=some cs->∃x∈laid,E.P.globalNamed x.1=some g∧∃t,(E.P.globals[g]?).map (·.type)=some t∧b6i E 8 t x.2=some cs):Holds E w:=by
 obtain⟨ps,hv,bn,cZ⟩:=h;have aW:∀(l:List (String×DataW Unit)) ps,DataW.LaidVars E.P w l ps->∀x∈l,∃g t cs a8 p,E.P.globalNamed x.1=some g∧(E.P.globals[g]?).map (·.type)=some t∧w.var? E.P x.1=some cs∧DataW.trod (λ_=>()) E.P w 0 (λ_=>true) false a8 t cs.toList=some (x.2,p):=by
  intro l
  induction l with
  |nil=>intro ps _ x hx;simp at hx
  |cons y r ih=>
   intro ps hv x hx;obtain⟨n,d⟩:=y;simp only[DataW.LaidVars]at hv;obtain⟨g,t,cs,a8,p,q,h1,h2,h3,h4,h5,_⟩:=hv;simp only[f4h]at hx;rcases hx with rfl|hx
   ·exact⟨g,t,cs,a8,p,h1,h2,h3,h4⟩
   ·exact ih q h5 x hx
 intro g cs hg;obtain⟨x,hx,h1,t,h2,h3⟩:=hG g cs hg;obtain⟨g',t',aO,a8,p,k1,k2,k3,k4⟩:=aW laid ps hv x hx;obtain rfl:g'=g:=z9o (k1.symm.trans h1);obtain rfl:t'=t:=z9o (k2.symm.trans h2);have hr:=c1t ok 8 t' a8 _ (x.2,p) cs k4 h3;unfold World.var? at k3;rw[k1]at k3;simp only[f7s]at k3;split at k3
 case h_2=>cases k3
 rename_i wi e fz mz;cases k3;refine⟨(f5b.1 mz).1,?_⟩;refine VAt.of_cells (cs:=aO.toList) (CellsAt.of_heap mz ?_) hr;intro j v hv;simpa using hv
end
end Go.Ax
/- AxLaw: from a run of a law's body that answers true, for all e05 arguments, to what a row asks. -/
namespace Go.Ax
open Go.ChangeShapes Go.WideShapes Go.RowKit
section
variable {E:Env}{H:Type}{enc:TypeId×Value->H}
theorem b0r{P:Program}(hl:laidOutB P=true){W W':World}(hb:Below W.heap.size W W'){sp:Nat->Bool}:∀(ts:List TypeId) (vs:List Value) (ds:List (DataW H)) (ps:List MemPlace),
 (ts.all λt=>P.readableRec t&&decide (t<P.types.size))=true->(∀p∈ps,p.block<W.heap.size)->(∀p∈ps,sp p.block=true)->
 DataW.TrodAll enc P W 0 (λ_=>true) true ts vs ds ps->DataW.TrodAll enc P W' 0 sp true ts vs ds ps
 | [],vs,ds,ps,_,_,_,h=>by cases vs<;>cases ds<;>simp only[DataW.TrodAll]at h⊢<;>exact h
 |t::ts,vs,ds,ps,hr,ai,hs,h=>by
  cases vs with
  |nil=>simp[DataW.TrodAll]at h
  |cons v vs=>
   cases ds with
   |nil=>simp[DataW.TrodAll]at h
   |cons d ds=>simp only[DataW.TrodAll]at h⊢;obtain⟨p,q,h1,h2,rfl⟩:=h;simp only[List.all_cons,f1d,f2y]at hr;refine⟨p,q,?_,b0r hl hb ts vs ds q hr.2 (λx hx=>ai x (by simp[hx])) (λx hx=>hs x (by simp[hx])) h2,rfl⟩;exact WideElems.Trod_stays hl hr.1.1 hr.1.2 h1 (λx hx=>hb.same (ai x (by simp[hx]))) (λx hx=>hs x (by simp[hx]))
theorem d6x{P:Program}(hl:laidOutB P=true){f:Func}{s:ChangeSpec}(dV:s.vars=[]){n:Nat}(hn:f.params.toList.length=n)
 (hs:∀ds:List (DataW H),ds.length=n->(s.fn H ds).results=[.lit (.bool true)]∧(s.fn H ds).args=ds∧(s.fn H ds).vars=[]){tb:TypeId}(dG:f.resultTypes = #[tb])(mf:P.underlying tb=some .bool)
 (nb:(f.params.toList.all λt=>P.readableRec t&&decide (t<P.types.size))=true)
 {W W':World}{args:Array Value}{ds gs:List (DataW H)}{bC:List MemPlace}(hW:DataW.Whole enc P f.params.toList s.vars false W args.toList ds gs bC)(hb:Below W.heap.size W W') :
 s.post enc P f false true false false W args (.bool true) W':=by
 have ai:∀p∈bC,p.block<W.heap.size:=λp hp=>hW.lt p hp;have aG:∀p∈bC,(λb=>decide (b<W.heap.size)) p.block=true:=λp hp=>by simpa using ai p hp
 have vn:=hW;obtain⟨p,q,hA,hV,rfl,hz,bn⟩:=hW;rw[dV]at hV;obtain⟨rfl,rfl⟩:=trodVars_none hV;have ak:ds.length=n:=by
  have:∀(ts:List TypeId) (vs:List Value) (ds:List (DataW H)) (ps:List MemPlace),DataW.TrodAll enc P W 0 (λ_=>true) true ts vs ds ps->ds.length=ts.length:=by
   intro ts
   induction ts with
   |nil=>intro vs ds ps h;cases vs<;>cases ds<;>simp[DataW.TrodAll]at h<;>rfl
   |cons t ts ih=>
    intro vs ds ps h;cases vs with
    |nil=>simp[DataW.TrodAll]at h
    |cons v vs=>cases ds with
     |nil=>simp[DataW.TrodAll]at h
     |cons d ds=>simp only[DataW.TrodAll]at h;obtain⟨p,q,_,h2,_⟩:=h;simp[ih vs ds q h2]
  rw[this _ _ _ _ hA,hn]
 obtain⟨s1,s2,s3⟩:=hs (ds++[]) (by simpa using ak);rw[f1b]at ai aG;have aJ:∀sp:Nat->Bool,(∀x∈p,sp x.block=true)->DataW.TrodAll enc P W' 0 sp true f.params.toList args.toList (s.fn H (ds++[])).args p:=by intro sp rg;rw[s2,f1b];exact b0r hl hb _ _ _ _ nb ai rg hA
 have l7:∀sp:Nat->Bool,DataW.TrodVars enc P W' sp s.vars (s.fn H (ds++[])).vars []:=by intro sp;rw[s3,dV];rfl
 have dM:∀(b:Nat) (sp:Nat->Bool) (hd:Bool),DataW.TrodAll enc P W' b sp hd f.resultTypes.toList ((Value.bool true).resultList f.resultTypes.size) (s.fn H (ds++[])).results []:=by intro b sp hd;rw[s1,dG];exact⟨[],[],⟨1,by simp[DataW.trod,mf,Value.cells]⟩,rfl,rfl⟩
 refine⟨ds,[],p++[],[],p,[],vn,dM _ _ _,aJ _ aG,l7 _,World.keptBut_mono (λx hx=>⟨hx,?_⟩) (hb.frame (·∈p++[])),λ_=>?_⟩
 ·simpa using hx
 ·refine⟨?_,_,_,([]++p)++[],⟨[]++p,[],trodAll_append (aJ _ (λ_ _=>rfl)) (dM _ _ _),l7 _,rfl,?_,?_⟩,?_⟩
  ·intro j t r hj hv;rw[dG]at hj hv
   match j,hj,hv with
   |0,hj,hv=>simp[Value.resultList]at hj hv;subst hj;subst hv;exact okWide_bool_mk mf true
  ·intro b off hp;have bw:MemPlace.cell b off∈p:=by simpa using hp
   rw[hb.frozen (ai _ bw)];exact hz b off (by simpa using bw)
  ·intro ha;cases ha
  ·intro x hx _;simpa using hx
theorem law_contract(ok:EnvOk E)(hl:laidOutB E.P=true){f:FuncId}{fn:Func}{run:List AV->a03->Option (AV×a03)}(pM:f≠yId)(hf:a9a E f run){m:Nat}
 (pc:(fn.params.toList.all (a5j E m))=true)(ae:∀args,TypAs E m fn.params.toList args->∃H',run args []=some (.bool true,H'))
 {s:ChangeSpec}(dV:s.vars=[]){n:Nat}(hn:fn.params.toList.length=n)
 (hs:∀ds:List (DataW H),ds.length=n->(s.fn H ds).results=[.lit (.bool true)]∧(s.fn H ds).args=ds∧(s.fn H ds).vars=[]){tb:TypeId}(dG:fn.resultTypes = #[tb])(mf:E.P.underlying tb=some .bool)
 (nb:(fn.params.toList.all λt=>E.P.readableRec t&&decide (t<E.P.types.size))=true)
 (W:World)(base:Nat)(args:Array Value)(ds gs:List (DataW H))(bC:List MemPlace)
 (cD:∀(j:Nat) t v,fn.params[j]?=some t->args[j]?=some v->Value.okWide E.P W .any base t v)
 (hW:DataW.Whole enc E.P fn.params.toList s.vars false W args.toList ds gs bC)(hG:Holds E W) :
 Calls E.P f args W λe W'=>∃v,e = .returned v∧s.post enc E.P fn false true false false W args v W':=by
 have hA:=hW;obtain⟨p,q,hA,_⟩:=hA;obtain⟨aQ,h1,h2⟩:=d47 (b0:=base) ok (n:=m) fn.params.toList args.toList ds p hA (λj t v ht hv=>cD j t v (by simpa using ht) (by simpa using hv)) pc;obtain⟨H',hr⟩:=ae aQ h2;have:=d5e pM hf hr hG h1;rw[Array.toArray_toList]at this;refine this.mono ?_
 rintro e W' ⟨rfl,hb⟩
 exact⟨_,rfl,d6x hl dV hn hs dG mf nb hW hb⟩
end
end Go.Ax
/- AxSem: what a call comes to, a4f fuel for the calls: a function 'sem', closed under running a body over itself. No condition. -/
namespace Go.Ax
abbrev CallF:=FuncId->List AV->a03->Option (AV×a03)
def CallF.le(c c':CallF):Prop:=∀g a H r,c g a H=some r->c' g a H=some r
theorem a94{r r':List AV->a03->Option (AV×a03)}(h:∀a H x,r a H=some x->r' a H=some x){args:List AV}{H:a03}{x:AV×a03×List Nat}
 (hc:a2v r args H=some x):a2v r' args H=some x:=by
 unfold a2v at hc⊢;simp only at hc⊢;rw[cond_eq_ite]at hc⊢;split at hc
 case isFalse=>cases hc
 rename_i h1;rw[f2w h1];split at hc
 case h_2=>cases hc
 rename_i v H1 hr;rw[h _ _ _ hr];exact hc
theorem c1r{r r':List AV->a03->Option (AV×a03)}(h:∀a H x,r a H=some x->r' a H=some x){args:List AV}{H:a03}{x:AV×a03×List Nat}
 (hc:a8t r args H=some x):a8t r' args H=some x:=by
 unfold a8t at hc⊢;split at hc
 case h_2=>cases hc
 rename_i au h1;split at hc
 case h_2=>cases hc
 rename_i v H1 hr;rw[h _ _ _ hr];exact hc
section
variable {E:Env}{ah:Bool}{N:Nat}{c c':CallF}(hc:CallF.le c c')
include hc
theorem c97{f:AV}{args:List AV}{H:a03}{x:AV×a03×List Nat}(h:a20 E ah c f args H=some x):a20 E ah c' f args H=some x:=by
 unfold a20 at h⊢;split at h
 case h_3=>cases h
 case h_2=>
  split at h
  case h_2=>cases h
  rename_i v H' σ hr;rw[a94 (λa H x=>hc yId a H x) hr];exact h
 rename_i g fs cs;rw[cond_eq_ite]at h⊢;split at h
 ·rename_i h1;rw[f2w h1];rw[cond_eq_ite]at h⊢;split at h
  ·rename_i h2;rw[f2w h2];exact c1r (λa H x=>hc g a H x) h
  ·rename_i h2;rw[f2m h2];exact h
 ·rename_i h1;rw[f2m h1];rw[cond_eq_ite]at h⊢;split at h
  case isFalse=>cases h
  rename_i h2;rw[f2w h2];split at h
  case h_2=>cases h
  rename_i v H' σ hr;rw[a94 (λa H x=>hc g a H x) hr];exact h
theorem c3d{F:Frm}{H:a03}{op:Op}{x:AV×a03×LogE}(h:a10 E ah c F H op=some x):a10 E ah c' F H op=some x:=by
 unfold a10 at h⊢;split at h
 ·split at h
  case h_2=>cases h
  rename_i v H' σ hr;rw[c97 hc hr];exact h
 ·exact h
theorem b43{R:Type}{all:List Oper}{k k':Frm->a03->Option R}(hk:∀F H r,k F H=some r->k' F H=some r):∀(ap:List Oper) (log:List LogE) (F:Frm) (H:a03) {r:R},
 a2w E ah N c all ap log F H k=some r->a2w E ah N c' all ap log F H k'=some r:=by
 intro ap
 induction ap with
 |nil=>
  intro log F H r h;unfold a2w at h⊢;rw[cond_eq_ite]at h⊢;split at h
  case isFalse=>cases h
  rename_i h1;rw[f2w h1];exact hk _ _ _ h
 |cons o al ih=>
  have step:∀(log:List LogE) (F F':Frm) (H:a03) (op:Op) (r:R),(match a10 E ah c F H op with
   |some (v,H',l)=>a2w E ah N c all al (l::log) (a42 F' o.dst v) H' k
   |none=>none)=some r->(match a10 E ah c' F H op with
   |some (v,H',l)=>a2w E ah N c' all al (l::log) (a42 F' o.dst v) H' k'
   |none=>none)=some r:=by
   intro log F F' H op r h;split at h
   case h_2=>cases h
   rename_i v H' l hs;rw[c3d hc hs];exact ih _ _ _ h
  intro log F H r h;unfold a2w at h⊢;rw[cond_eq_ite]at h⊢;split at h
  case isFalse=>cases h
  rename_i h1;rw[f2w h1];split at h
  ·exact step _ _ _ _ _ _ h
  ·rename_i j bt hg;split at h
   ·cases h
   ·rename_i d hd;split at h
    ·rename_i b hb;rw[cond_eq_ite]at h⊢;split at h
     ·rename_i so;rw[f2w so];rw[cond_eq_ite]at h⊢;split at h
      ·rename_i hw;rw[f2w hw];exact step _ _ _ _ _ _ h
      ·rename_i hw;rw[f2m hw];exact ih _ _ _ h
     ·rename_i so;rw[f2m so];rw[cond_eq_ite]at h⊢;split at h
      ·rename_i hw;rw[f2w hw];exact ih _ _ _ h
      ·rename_i hw;rw[f2m hw];exact step _ _ _ _ _ _ h
    ·exact ih _ _ _ h
    ·cases h
omit hc in
theorem b7g{m0:Nat}{keep:List Nat}{R:Type}{b b':Frm->a03->(AExit->Frm->a03->Option R)->Option R}
 (hb:∀F H (k k':AExit->Frm->a03->Option R),(∀e F H r,k e F H=some r->k' e F H=some r)->∀r,b F H k=some r->b' F H k'=some r):∀(n n':Nat),n<=n'->∀(F:Frm) (H:a03) (k k':AExit->Frm->a03->Option R),(∀e F H r,k e F H=some r->k' e F H=some r)->∀{r:R},
 b32 m0 keep b n F H k=some r->b32 m0 keep b' n' F H k'=some r
 |0,_,_,F,H,k,k',_,r,h=>by simp[b32]at h
 |n+1,0,hn,F,H,k,k',_,r,h=>by omega
 |n+1,n'+1,hn,F,H,k,k',hk,r,h=>by
  unfold b32 at h⊢;simp only at h⊢;rw[cond_eq_ite]at h⊢;split at h
  case isFalse=>cases h
  rename_i h1;rw[f2w h1];refine hb _ _ _ _ ?_ r h;intro e F H r h;cases e with
  |normal=>exact b7g hb n n' (by omega) F H k k' hk h
  |exit id=>exact hk _ _ _ _ h
  |ret=>exact hk _ _ _ _ h
omit hc in
theorem b47{m0 it:Nat}{keep:List Nat}{ks aP:List Int}{b b':Frm->a03->(AExit->Frm->a03->Option R3)->Option R3}
 (hb:∀F H (k k':AExit->Frm->a03->Option R3),(∀e F H r,k e F H=some r->k' e F H=some r)->∀r,b F H k=some r->b' F H k'=some r){a:Option Int}{F:Frm}{H:a03}{x:R3}(h:b2i m0 it keep ks aP b a F H=some x):b2i m0 it keep ks aP b' a F H=some x:=by
 unfold b2i at h⊢;split at h
 case h_2=>cases h
 rename_i F1 H1 hg;split at h
 case h_2=>cases h
 rename_i H2 ha;exact hb _ _ _ _ (λ_ _ _ _ h=>h) _ h
omit hc in
theorem b4h{m0 it:Nat}{keep:List Nat}{ks:List Int}{b b':Frm->a03->(AExit->Frm->a03->Option R3)->Option R3}
 (hb:∀F H (k k':AExit->Frm->a03->Option R3),(∀e F H r,k e F H=some r->k' e F H=some r)->∀r,b F H k=some r->b' F H k'=some r):∀{o aP:List Int} {F:Frm} {H:a03} {x:R3},a5y m0 it keep ks b aP o F H=some x->a5y m0 it keep ks b' aP o F H=some x
 | [],aP,F,H,x,h=>by
  unfold a5y at h⊢;split at h
  ·cases h
  ·rename_i e F' H' aw hr;rw[b47 hb hr];cases e with
   |normal=>exact(aw rfl).elim
   |exit id=>exact h
   |ret=>exact h
  ·cases h
 |i::o,aP,F,H,x,h=>by
  unfold a5y at h⊢;split at h
  case h_2=>cases h
  rename_i F' H' hr;rw[b47 hb hr];exact b4h hb h
omit hc in
theorem c88{m0 it:Nat}{keep:List Nat}{R:Type}{b b':Frm->a03->(AExit->Frm->a03->Option R3)->Option R3}
 (hb:∀F H (k k':AExit->Frm->a03->Option R3),(∀e F H r,k e F H=some r->k' e F H=some r)->∀r,b F H k=some r->b' F H k'=some r){F:Frm}{H:a03}{k k':AExit->Frm->a03->Option R}(hk:∀e F H r,k e F H=some r->k' e F H=some r){r:R}
 (h:c89 m0 it keep b F H k=some r):c89 m0 it keep b' F H k'=some r:=by
 unfold c89 at h⊢;split at h
 case h_2=>cases h
 rename_i ks d6;split at h
 case h_2=>cases h
 rename_i r0 rs lE;rw[cond_eq_ite]at h;split at h
 case isFalse=>cases h
 rename_i aW;have hm:(b7b ks).map (λo=>a5y m0 it keep ks b' [] o F H)=some r0::rs:=by
  rw[<-lE];refine f4y λo ho=>?_;have hm:=f7b (f:=λo=>a5y m0 it keep ks b [] o F H) ho;rw[lE]at hm;have he:a5y m0 it keep ks b [] o F H=some r0:=by
   rcases f4h.1 hm with h|h
   ·exact h
   ·exact c59 (f4l.1 aW _ h)
  rw[he];exact b4h hb he
 rw[hm];simp only[aW,f2v];exact hk _ _ _ _ h
theorem a6n{m0 lf gt:Nat}(hl:lf<=gt){keep:Nat->List Nat}:∀(code:Code) {R:Type} (cur:Nat) (F:Frm) (H:a03) (k k':AExit->Frm->a03->Option R),(∀e F H r,k e F H=some r->k' e F H=some r)->∀{r:R},
 a4a E m0 N keep c lf cur code F H k=some r->a4a E m0 N keep c' gt cur code F H k'=some r:=by
 intro code
 induction code with
 |skip=>intro R cur F H k k' hk r h;unfold a4a at h⊢;exact hk _ _ _ _ h
 |label l=>intro R cur F H k k' hk r h;unfold a4a at h⊢;exact hk _ _ _ _ h
 |exit id=>intro R cur F H k k' hk r h;unfold a4a at h⊢;exact hk _ _ _ _ h
 |ret=>intro R cur F H k k' hk r h;unfold a4a at h⊢;exact hk _ _ _ _ h
 |region id ap ah=>
  intro R cur F H k k' hk r h;unfold a4a at h⊢;cases hn:d6d ap.toList with
  |none=>rw[hn]at h;exact b43 hc (λF H r h=>hk _ _ _ _ h) _ _ _ _ h
  |some x=>
   obtain⟨it,nx,al⟩:=x;rw[hn]at h;simp only[cond_eq_ite]at h⊢;split at h
   case isTrue=>cases h
   rename_i h1;rw[f2m h1];split at h
   case h_2=>cases h
   rename_i v H' hx;exact b43 hc (λF H r h=>hk _ _ _ _ h) _ _ _ _ h
 |seq x y ihx ihy=>
  intro R cur F H k k' hk r h;unfold a4a at h⊢;refine ihx _ _ _ _ _ ?_ h;intro e F H r h;cases e with
  |normal=>exact ihy _ _ _ _ _ hk h
  |exit id=>exact hk _ _ _ _ h
  |ret=>exact hk _ _ _ _ h
 |cond x y z ihy ihz=>
  intro R cur F H k k' hk r h;unfold a4a at h⊢;split at h
  case h_2=>cases h
  rename_i t ht;simp only[cond_eq_ite]at h⊢;split at h
  ·rename_i h1;rw[f2w h1];exact ihy _ _ _ _ _ hk h
  ·rename_i h1;rw[f2m h1];exact ihz _ _ _ _ _ hk h
 |block id b ih=>
  intro R cur F H k k' hk r h;unfold a4a at h⊢;refine ih _ _ _ _ _ ?_ h;intro e F H r h;cases e with
  |normal=>exact hk _ _ _ _ h
  |exit id'=>
   simp only[cond_eq_ite]at h⊢;split at h
   ·rename_i h1;rw[f2w h1];exact hk _ _ _ _ h
   ·rename_i h1;rw[f2m h1];exact hk _ _ _ _ h
  |ret=>exact hk _ _ _ _ h
 |loop b ih=>
  intro R cur F H k k' hk r h;unfold a4a at h⊢;cases hn:a84 b with
  |some it=>rw[hn]at h;exact c88 (λF H k k' hk r h=>ih _ F H k k' hk h) hk h
  |none=>
  rw[hn]at h;dsimp only at h⊢;refine b7g (λF H k k' hk r h=>ih _ F H k k' hk h) _ _ hl F H _ _ ?_ h;intro e F H r h;rw[cond_eq_ite]at h⊢;split at h
  ·rename_i h1;rw[f2w h1];exact hk _ _ _ _ h
  ·rename_i h1;rw[f2m h1];exact hk _ _ _ _ h
 |scope b ih=>intro R cur F H k k' hk r h;unfold a4a at h⊢;exact ih _ _ _ _ _ hk h
 |rangeFunc f ps as b=>
  intro R cur F H k k' hk r h;unfold a4a at h⊢;split at h
  case h_2=>cases h
  rename_i g fs cs y _ _;rw[cond_eq_ite]at h⊢;split at h
  case isFalse=>cases h
  rename_i h1;rw[f2w h1];split at h
  case h_2=>cases h
  rename_i v H2 σ hr;rw[a94 (λa H x=>hc g a H x) hr];dsimp only;split at h
  ·exact hk _ _ _ _ h
  ·exact hk _ _ _ _ h
  ·exact hk _ _ _ _ h
  ·cases h
 |_=>intro R cur F H k k' hk r h;simp[a4a]at h
theorem b8x{lf gt:Nat}(hl:lf<=gt){args:List AV}{H:a03}{r:AV×a03}(h:a9e E c lf args H=some r):a9e E c' gt args H=some r:=by
 unfold a9e at h⊢;split at h
 case h_2=>cases h
 rename_i b vs;split at h
 case h_2=>cases h
 rename_i y F hb;split at h
 case h_2=>cases h
 rename_i ri mi;rw[cond_eq_ite]at h⊢;split at h
 case isFalse=>cases h
 rename_i h1;rw[f2w h1];refine a6n hc hl _ _ _ _ _ _ ?_ h;intro e F H r h;cases e with
 |normal=>
  dsimp only at h⊢;split at h
  case h_2=>cases h
  rename_i H1 hy;exact a6n hc hl _ _ _ _ _ _ (λ_ _ _ _ h=>h) h
 |exit id=>exact h
 |ret=>exact h
theorem d4k{m0 lf gt:Nat}(hl:lf<=gt){keep:Nat->List Nat}:∀(code:Code) {R:Type} (cur:Nat) (F:Frm) (H:a03) (k k':AExit->Frm->a03->Option R),(∀e F H r,k e F H=some r->k' e F H=some r)->∀{r:R},
 e3c E m0 N keep c lf cur code F H k=some r->e3c E m0 N keep c' gt cur code F H k'=some r:=by
 intro code
 induction code with
 |seq x y ihx ihy=>
  intro R cur F H k k' hk r h;unfold e3c at h⊢;refine ihx _ _ _ _ _ ?_ h;intro e F H r h;cases e with
  |normal=>exact ihy _ _ _ _ _ hk h
  |exit id=>exact hk _ _ _ _ h
  |ret=>exact hk _ _ _ _ h
 |_=>intro R cur F H k k' hk r h;exact a6n hc hl _ _ _ _ _ _ hk h
theorem d4l{m0 lf gt j:Nat}(hl:lf<=gt){keep:Nat->List Nat}:∀(n:Nat) (code:Code) {R:Type} (cur:Nat) (F:Frm) (H:a03) (k k':AExit->Frm->a03->Option R),(∀e F H r,k e F H=some r->k' e F H=some r)->∀{r:R},
 e4w E m0 N keep c lf j n cur code F H k=some r->e4w E m0 N keep c' gt j n cur code F H k'=some r:=by
 intro n
 induction n with
 |zero=>intro code R cur F H k k' hk r h;exact a6n hc hl _ _ _ _ _ _ hk h
 |succ n ih=>
  intro code;cases code with
  |seq x y=>
   intro R cur F H k k' hk r h;refine a6n hc hl x cur F H _ _ ?_ h;intro e F H r h;cases e with
   |normal=>exact ih _ _ _ _ _ _ hk h
   |exit id=>exact hk _ _ _ _ h
   |ret=>exact hk _ _ _ _ h
  |_=>intro R cur F H k k' hk r h;exact a6n hc hl _ _ _ _ _ _ hk h
theorem b1o{lf gt:Nat}(hl:lf<=gt){g:FuncId}{args:List AV}{H:a03}{r:AV×a03}(h:b0t E c lf g args H=some r):b0t E c' gt g args H=some r:=by
 unfold b0t at h⊢;split at h
 ·exact h
 split at h
 ·skip
  rw[cond_eq_ite]at h⊢;split at h
  case isFalse=>cases h
  rename_i h1;rw[f2w h1];exact b8x hc hl h
 rename_i i hi;rw[cond_eq_ite]at h⊢;split at h
 case isFalse=>cases h
 rename_i h1;rw[f2w h1];unfold e4x at h⊢;cases hz:E.zf g with
 |true=>
  rw[hz,f2v]at h;rw[f2v];cases iu:E.zn g with
  |zero=>rw[iu]at h;exact d4k hc hl _ _ _ _ _ _ (λ_ _ _ _ h=>h) h
  |succ n=>rw[iu]at h;exact d4l hc hl _ _ _ _ _ _ _ (λ_ _ _ _ h=>h) h
 |false=>rw[hz,f4i]at h;rw[f4i];exact a6n hc hl _ _ _ _ _ _ (λ_ _ _ _ h=>h) h
end
inductive Der(E:Env)(M:List Fact):FuncId->List AV->a03->AV×a03->Prop
 |run (g:FuncId) (args:List AV) (H:a03) (r:AV×a03) (c:CallF) (lf:Nat) (hc:∀g a H r,c g a H=some r->Der E M g a H r)
  (cR:∀x∈M,x.g≠g) (h:b0t E c lf g args H=some r):Der E M g args H r
 |fact (x:Fact) (hx:x∈M) (rW:∀y∈M,y.g=x.g->y.args=x.args->y.v=x.v):Der E M x.g x.args [] (x.v,[])
open Classical in
noncomputable def e9m(c c':CallF):CallF:=λg a H=>match c g a H with|some r=>some r|none=>c' g a H
theorem Der.one{E:Env}{M:List Fact}{g:FuncId}{args:List AV}{H:a03}{r r':AV×a03}(h:Der E M g args H r)(h':Der E M g args H r'):r=r':=by
 induction h generalizing r' with
 |run g args H r c lf hc cR h ih=>
  cases h' with
  |run _ _ _ _ c' gt qF gO h'=>
   have l1:CallF.le c (e9m c c'):=by intro g a H r h;simp[e9m,h]
   have l2:CallF.le c' (e9m c c'):=by
    intro g a H r h;unfold e9m;cases cW:c g a H with
    |none=>exact h
    |some s=>exact congrArg some (ih g a H s cW (qF g a H r h))
   have e1:=b1o l1 (Nat.le_max_left lf gt) h;have e2:=b1o l2 (Nat.le_max_right lf gt) h';exact z9o (e1.symm.trans e2)
  |fact x hx=>exact absurd rfl (cR x hx)
 |fact x hx hf=>
  generalize hg:x.g=g at h';generalize ha:x.args=args at h';generalize hH:([]:a03)=H at h';cases h' with
  |run _ _ _ _ c' gt qF gO h'=>exact absurd hg (gO x hx)
  |fact y hy hf'=>rw[hf y hy hg.symm ha.symm]
theorem Der.ok{E:Env}(ok:EnvOk E)(jc:DrOk E){M:List Fact}(hM:∀x∈M,d9w E x){g:FuncId}{args:List AV}{H:a03}{r:AV×a03}(h:Der E M g args H r) :
 a9a E g (λa H'=>open Classical in if a=args∧H'=H then some r else none):=by
 induction h with
 |run g args H r c lf hc cR h ih=>
  have af:a45 E c:=by intro g a H v H' hr;have:=ih g a H (v,H') hr;exact this a H v H' (by simp)
  intro a H' v ui hr;dsimp only at hr;split at hr
  ·rename_i hh;obtain⟨rfl,rfl⟩:=hh;cases hr;exact d5v ok jc af lf g a H' v ui h
  ·cases hr
 |fact x hx hf=>
  intro a H' v ui hr;dsimp only at hr;split at hr
  ·rename_i hh;obtain⟨rfl,rfl⟩:=hh;cases hr;intro I K ρ w an h1 h2 h3;exact hM x hx I K ρ w an h1 h2 h3
  ·cases hr
open Classical in
noncomputable def sem(E:Env)(M:List Fact):CallF:=λg args H=>if h:∃r,Der E M g args H r then some h.choose else none
section
variable {E:Env}{M:List Fact}
theorem c3l{g:FuncId}{args:List AV}{H:a03}{r:AV×a03}:sem E M g args H=some r↔Der E M g args H r:=by
 unfold sem;constructor
 ·intro h;split at h
  ·rename_i hh;cases h;exact hh.choose_spec
  ·cases h
 ·intro h;have hh:∃r,Der E M g args H r:=⟨r,h⟩
  rw[dif_pos hh];exact congrArg some (Der.one hh.choose_spec h)
theorem b8r{g:FuncId}{args:List AV}{H:a03}{r:AV×a03}(cR:∀x∈M,x.g≠g)(lf:Nat)(h:b0t E (sem E M) lf g args H=some r):sem E M g args H=some r:=c3l.2 (.run g args H r (sem E M) lf (λ_ _ _ _ h=>c3l.1 h) cR h)
theorem d94(ok:EnvOk E)(jc:DrOk E)(hM:∀x∈M,d9w E x):a45 E (sem E M):=by intro g args H v H' h;exact(Der.ok ok jc hM (c3l.1 h)) args H v H' (by simp)
end
end Go.Ax
/- AxEv: runs of statements in direct style: what a statement comes to, for a4m loop fuel that is great enough. -/
namespace Go.Ax
def d9b{α β:Type}(x:Option α)(f:α->β)(d:β):β:=match x with|some a=>f a|none=>d
def a0j{α β:Type}(x:Option α)(f:α->Option β):Option β:=match x with|some a=>f a|none=>none
@[go_sem] theorem e47{α β:Type}(a:α)(f:α->Option β):a0j (some a) f=f a:=by rfl
@[congr] theorem e1f{α β:Type}{x y:Option α}{f:α->Option β}(h:x=y):a0j x f=a0j y f:=by rw[h]
def b0o(E:Env)(ah:Bool)(N:Nat)(call:CallF)(all:List Oper):List Oper->List LogE->Frm->a03->Option (Frm×a03×List LogE)
 | [],log,F,H=>some (F,H,log)
 |o::al,log,F,H=>
  bif a7f N o.dst then
   match o.guard with
   |none=>a0j (a10 E ah call F H o.op) λx=>b0o E ah N call all al (x.2.2::log) (a42 F o.dst x.1) x.2.1
   |some (j,bt)=>match a3d all j with
    |none=>none
    |some d=>match a35 F d with
     |.bool b=>bif b then
      (bif bt then a0j (a10 E ah call (a42 F (some d) (.bool true)) H o.op) λx=>b0o E ah N call all al (x.2.2::log) (a42 (a42 F (some d) (.bool true)) o.dst x.1) x.2.1
      else b0o E ah N call all al (⟨[],[]⟩::log) (a42 (a42 F (some d) (.bool true)) o.dst (.tuple [])) H)
      else
       (bif bt then b0o E ah N call all al (⟨[],[]⟩::log) (a42 (a42 F (some d) (.bool false)) o.dst (.tuple [])) H
       else a0j (a10 E ah call (a42 F (some d) (.bool false)) H o.op) λx=>b0o E ah N call all al (x.2.2::log) (a42 (a42 F (some d) (.bool false)) o.dst x.1) x.2.1)
     |.tuple []=>b0o E ah N call all al (⟨[],[]⟩::log) (a42 F o.dst (.tuple [])) H
     |_=>none
  else none
theorem c3n{E:Env}{ah:Bool}{N:Nat}{call:CallF}{all:List Oper}{R:Type}{k:Frm->a03->Option R}:∀(ap:List Oper) (log:List LogE) (F:Frm) (H:a03),
 a2w E ah N call all ap log F H k=(match b0o E ah N call all ap log F H with|some (F',H',gE)=>(bif !ah||logOk all gE.length gE then k F' H' else none)|none=>none):=by
 intro ap
 induction ap with
 |nil=>intro log F H;rfl
 |cons o al ih=>
  intro log F H;have step:∀(F1 F2:Frm),(match a10 E ah call F1 H o.op with
   |some (v,H',l)=>a2w E ah N call all al (l::log) (a42 F2 o.dst v) H' k
   |none=>none)=(match a0j (a10 E ah call F1 H o.op) λx=>b0o E ah N call all al (x.2.2::log) (a42 F2 o.dst x.1) x.2.1 with|some (F',H',gE)=>(bif !ah||logOk all gE.length gE then k F' H' else none)|none=>none):=by
   intro F1 F2;cases a10 E ah call F1 H o.op with
   |none=>rfl
   |some x=>exact ih _ _ _
  obtain⟨dst,op,ty,pos,after,guard⟩:=o;unfold a2w b0o;cases hd:a7f N dst with
  |false=>rfl
  |true=>
   cases guard with
   |none=>exact step F F
   |some g=>
    obtain⟨j,bt⟩:=g;simp only[f2v];cases hs:a3d all j with
    |none=>rfl
    |some d=>
     simp only;cases hv:a35 F d with
     |bool b=>cases b<;>cases bt<;>simp only[f2v,f4i]<;>first|exact step _ _|exact ih _ _ _
     |tuple vs=>cases vs with
      |nil=>exact ih _ _ _
      |cons a r=>rfl
     |_=>rfl
structure Cx where
 E:Env
 M:List Fact
 m0:Nat
 N:Nat
 keep:Nat->List Nat
 cur:Nat
def Ev(x:Cx)(c:Code)(F:Frm)(H:a03)(r:AExit×Frm×a03):Prop:=∃n0,∀lf,n0<=lf->∀(R:Type) (k:AExit->Frm->a03->Option R),a4a x.E x.m0 x.N x.keep (sem x.E x.M) lf x.cur c F H k=k r.1 r.2.1 r.2.2
section
variable {x:Cx}{F F1:Frm}{H H1:a03}{r:AExit×Frm×a03}
theorem Ev.skip:Ev x .skip F H (.normal,F,H):=⟨0,λ_ _ _ _=>rfl⟩
theorem Ev.label{l}:Ev x (.label l) F H (.normal,F,H):=⟨0,λ_ _ _ _=>rfl⟩
theorem Ev.leave{id}:Ev x (.exit id) F H (.exit id,F,H):=⟨0,λ_ _ _ _=>rfl⟩
theorem Ev.ret:Ev x .ret F H (.ret,F,H):=⟨0,λ_ _ _ _=>rfl⟩
theorem e1h{E:Env}{ah:Bool}{N:Nat}{call:CallF}{all ap:List Oper}{log:List LogE}{F:Frm}{H:a03}{r:Frm×a03×List LogE}(h:b0o E ah N call all ap log F H=some r):d6d ap=none:=by
 unfold d6d;split
 ·rfl
 ·rename_i o al;split
  ·rename_i it nx h1 h2 h3;obtain⟨d,op,ty,pos,after,guard⟩:=o;simp only at h1 h2 h3;subst h1 h2 h3;unfold b0o at h;have hs:a10 E ah call F H (.next (.tmp it) false)=none:=by
    have:aop E H.length (a02 H) (.next (.tmp it) false) (opv E F)=none:=by show c2u (a02 H) (opv E F (.tmp it)) false=none;unfold c2u;split<;>rfl
    unfold a10;simp only[this]
   rw[cond_eq_ite]at h;split at h
   ·simp only[hs,a0j]at h;cases h
   ·cases h
  ·rfl
theorem Ev.region{id ap ah}{log:List LogE}(h:b0o x.E ah x.N (sem x.E x.M) ap.toList ap.toList [] F H=some (F1,H1,log))(hl:(!ah||logOk ap.toList log.length log)=true):Ev x (.region id ap ah) F H (.normal,F1,H1):=⟨0,λ_ _ R k=>by simp only[a4a,e1h h,c3n,h,hl,f2v]⟩
theorem Ev.seq{a b}(h:Ev x a F H (.normal,F1,H1))(h2:Ev x b F1 H1 r):Ev x (.seq a b) F H r:=by obtain⟨n,h⟩:=h;obtain⟨m,h2⟩:=h2;exact⟨max n m,λlf hl R k=>by simp only[a4a];rw[h lf (by omega)];exact h2 lf (by omega) R k⟩
theorem Ev.seq_ret{a b}(h:Ev x a F H (.ret,F1,H1)):Ev x (.seq a b) F H (.ret,F1,H1):=by obtain⟨n,h⟩:=h;exact⟨n,λlf hl R k=>by simp only[a4a];rw[h lf hl]⟩
theorem Ev.seq_exit{a b id}(h:Ev x a F H (.exit id,F1,H1)):Ev x (.seq a b) F H (.exit id,F1,H1):=by obtain⟨n,h⟩:=h;exact⟨n,λlf hl R k=>by simp only[a4a];rw[h lf hl]⟩
theorem Ev.cond_t{c a b}(hc:opv x.E F c = .bool true)(h:Ev x a F H r):Ev x (.cond c a b) F H r:=by obtain⟨n,h⟩:=h;exact⟨n,λlf hl R k=>by simp only[a4a,hc,f2v];exact h lf hl R k⟩
theorem Ev.cond_f{c a b}(hc:opv x.E F c = .bool false)(h:Ev x b F H r):Ev x (.cond c a b) F H r:=by obtain⟨n,h⟩:=h;exact⟨n,λlf hl R k=>by simp only[a4a,hc,f4i];exact h lf hl R k⟩
theorem Ev.block{id b}(h:Ev { x with cur:=id } b F H (.normal,F1,H1)):Ev x (.block id b) F H (.normal,F1,H1):=by obtain⟨n,h⟩:=h;exact⟨n,λlf hl R k=>by simp only[a4a];rw[h lf hl]⟩
theorem Ev.block_ret{id b}(h:Ev { x with cur:=id } b F H (.ret,F1,H1)):Ev x (.block id b) F H (.ret,F1,H1):=by obtain⟨n,h⟩:=h;exact⟨n,λlf hl R k=>by simp only[a4a];rw[h lf hl]⟩
theorem Ev.block_exit{id b}(h:Ev { x with cur:=id } b F H (.exit id,F1,H1)):Ev x (.block id b) F H (.normal,F1,H1):=by obtain⟨n,h⟩:=h;exact⟨n,λlf hl R k=>by simp only[a4a];rw[h lf hl];simp⟩
theorem Ev.block_on{id id' b}(h:Ev { x with cur:=id } b F H (.exit id',F1,H1))(aw:(id'==id)=false):Ev x (.block id b) F H (.exit id',F1,H1):=by obtain⟨n,h⟩:=h;exact⟨n,λlf hl R k=>by simp only[a4a];rw[h lf hl];simp only[aw,f4i]⟩
theorem Ev.scope{b}(h:Ev x b F H r):Ev x (.scope b) F H r:=by obtain⟨n,h⟩:=h;exact⟨n,λlf hl R k=>by simp only[a4a];exact h lf hl R k⟩
def EvL(x:Cx)(b:Code)(F:Frm)(H:a03)(r:AExit×Frm×a03):Prop:=
 ∃n0,∀lf,n0<=lf->∀n,n0<=n->∀(R:Type) (k:AExit->Frm->a03->Option R),
  b32 x.m0 (x.keep x.cur) (λF H k=>a4a x.E x.m0 x.N x.keep (sem x.E x.M) lf x.cur b F H k) n F H k=k r.1 r.2.1 r.2.2
theorem Ev.loop{b}(hx:a84 b=none)(hz:d4w (x.keep x.cur)=false)(h:EvL x b F H r):Ev x (.loop b) F H r:=by obtain⟨n,h⟩:=h;exact⟨n,λlf hl R k=>by simp only[a4a,hx,hz,f4i];exact h lf hl lf hl R k⟩
theorem Ev.loopZ{b}{e:AExit}(hx:a84 b=none)(hz:d4w (x.keep x.cur)=true)(h:EvL x b F H (e,F1,H1)):Ev x (.loop b) F H (e,b9p (x.m0+c9p (x.keep x.cur)) H1 F1,b0q (x.m0+c9p (x.keep x.cur)) H1):=by obtain⟨n,h⟩:=h;exact⟨n,λlf hl R k=>by simp only[a4a,hx,hz,f2v];exact h lf hl lf hl R _⟩
theorem c48{m0:Nat}{keep:List Nat}(hg:gcD m0 keep F H=some (F1,H1)) :
 (a54 (a9s m0 (a2c keep F) H)&&(a9s m0 (a2c keep F) H).all (λb=>Nat.ble m0 b)&&Nat.ble m0 H.length)=true∧c0h (b6g m0 (a9s m0 (a2c keep F) H)) (a2c keep F)=F1∧gcH m0 (a9s m0 (a2c keep F) H) H=H1:=by
 unfold gcD at hg;simp only[cond_eq_ite]at hg;split at hg
 case isFalse=>cases hg
 rename_i hc;cases hg;exact⟨hc,rfl,rfl⟩
theorem EvL.leave{b:Code}{F2:Frm}{H2:a03}{e:AExit}(hg:gcD x.m0 (x.keep x.cur) F H=some (F1,H1))(h:Ev x b F1 H1 (e,F2,H2))(he:e≠ .normal):EvL x b F H (e,F2,H2):=by
 obtain⟨n0,h⟩:=h;refine⟨n0+1,λlf hl n hn R k=>?_⟩;obtain⟨n,rfl⟩:∃l,n=l+1:=⟨n-1,by omega⟩
 obtain⟨h1,h2,h3⟩:=c48 hg;simp only[b32,h1,h2,h3,f2v];rw[h lf (by omega)];cases e with
 |normal=>exact absurd rfl he
 |exit id=>rfl
 |ret=>rfl
theorem EvL.again{b:Code}{F2:Frm}{H2:a03}(hg:gcD x.m0 (x.keep x.cur) F H=some (F1,H1))(h:Ev x b F1 H1 (.normal,F2,H2))(h':EvL x b F2 H2 r):EvL x b F H r:=by
 obtain⟨n0,h⟩:=h;obtain⟨m0,h'⟩:=h';refine⟨max n0 m0+1,λlf hl n hn R k=>?_⟩;obtain⟨n,rfl⟩:∃l,n=l+1:=⟨n-1,by omega⟩
 obtain⟨h1,h2,h3⟩:=c48 hg;simp only[b32,h1,h2,h3,f2v];rw[h lf (by omega)];exact h' lf (by omega) n (by omega) R k
theorem c55{E:Env}{M:List Fact}{g:FuncId}{args:List AV}{H:a03}{code:Code}{N:Nat}{results:List ResultVar}{e:AExit}{F':Frm}{H':a03}{vs:List AV}{v:AV}{H2:a03}
 (bE:E.fn g=some ⟨code,N,results⟩)(cR:∀y∈M,y.g≠g)(hN:Nat.ble args.length N=true)(h:Ev ⟨E,M,H.length,N,E.keep g,0⟩ code (a3t 0 args) H (e,F',H'))(he:∀id,e≠ .exit id)
 (hr:a1c E F' H' results=some vs)(dB:a22 (E.thaw g) H.length (a6l vs) H'=some (v,H2))(hp:E.prim g args=none)(hz:E.zf g=false)(hw:E.raw g=false):sem E M g args H=some (v,H2):=by
 obtain⟨n,h⟩:=h;refine b8r cR n ?_;unfold b0t;have ph:c1b E g args H=none:=by
  unfold c1b;cases H with
  |nil=>exact hp
  |cons a r=>rfl
 rw[ph,bE];simp only;rw[hN];simp only[f2v];unfold e4x;rw[hz];simp only[f4i];refine(h n (f2q _) _ _).trans ?_;cases e with
 |exit id=>exact absurd rfl (he id)
 |normal=>simp only[hr,c9q,hw];exact dB
 |ret=>simp only[hr,c9q,hw];exact dB
end
end Go.Ax
/- AxSimp: the evaluator's steps as rewrite rules. -/
namespace Go.Ax
section
variable {E:Env}{ah:Bool}{N:Nat}{call:CallF}{all al:List Oper}{log:List LogE}{F:Frm}{H:a03}
@[go_sem] theorem e98(s:Nat)(v:AV)(r:Frm):a35 ((s,v)::r) s=v:=by simp only[a35,d4v,cond_eq_ite,beq_self_eq_true,f7i]
@[go_sem] theorem e6x{s t:Nat}(h:(s=t)=False)(v:AV)(r:Frm):a35 ((s,v)::r) t=a35 r t:=by have:¬s=t:=λe=>h▸e;simp only[a35,d4v,cond_eq_ite,f7u,f2m this]
@[go_sem] theorem e5i(d:Nat)(v:AV):a42 F (some d) v=(d,v)::F:=by rfl
@[go_sem] theorem e5j(v:AV):a42 F none v=F:=by rfl
@[go_sem] theorem f1n(t:Nat):opv E F (.tmp t)=a35 F t:=by rfl
@[go_sem] theorem e8v(f:Nat):opv E F (.func f) = .func (.func f) [] []:=by rfl
@[go_sem] theorem e8w(b:Bool):opv E F (.const (.bool b)) = .bool b:=by rfl
@[go_sem] theorem f1p(k:IntKind)(n:Int):opv E F (.const (.int k n)) = .int k n:=by rfl
@[go_sem] theorem e46:opv E F (.const (.pointer none)) = .nilptr:=by rfl
@[go_sem] theorem d9a:opv E F (.const (.slice none 0 0)) = .nilslice:=by rfl
@[go_sem] theorem e1b:opv E F (.const .nilFunc) = .nilfunc:=by rfl
@[go_sem] theorem f1o(s:ByteArray):opv E F (.const (.string s)) = .str s.data.toList:=by rfl
@[go_sem] theorem e8j:b0o E ah N call all [] log F H=some (F,H,log):=by rfl
@[go_sem] theorem e4j(d:Nat):a7f N (some d)=decide (d<N):=by rw[a7f,g0i];simp[f4o]
@[go_sem] theorem e4k:a7f N none=true:=by rfl
theorem e0w(dst:Option Nat)(op:Op)(ty:TypeId)(pos:String)(after:Array Edge) :
 b0o E ah N call all ({ dst:=dst,op:=op,type:=ty,pos:=pos,after:=after,guard:=none }::al) log F H =
  bif a7f N dst then a0j (a10 E ah call F H op) λx=>b0o E ah N call all al (x.2.2::log) (a42 F dst x.1) x.2.1 else none:=by
 rfl
def d5u(E:Env)(ah:Bool)(N:Nat)(call:CallF)(all:List Oper)(dst:Option Nat)(op:Op)(al:List Oper)(log:List LogE)(F:Frm)(H:a03)(d:Nat)(bt:Bool):AV->Option (Frm×a03×List LogE)
 |.bool b=>bif b then
  (bif bt then a0j (a10 E ah call (a42 F (some d) (.bool true)) H op) λx=>b0o E ah N call all al (x.2.2::log) (a42 (a42 F (some d) (.bool true)) dst x.1) x.2.1
  else b0o E ah N call all al (⟨[],[]⟩::log) (a42 (a42 F (some d) (.bool true)) dst (.tuple [])) H)
  else
   (bif bt then b0o E ah N call all al (⟨[],[]⟩::log) (a42 (a42 F (some d) (.bool false)) dst (.tuple [])) H
   else a0j (a10 E ah call (a42 F (some d) (.bool false)) H op) λx=>b0o E ah N call all al (x.2.2::log) (a42 (a42 F (some d) (.bool false)) dst x.1) x.2.1)
 |.tuple []=>b0o E ah N call all al (⟨[],[]⟩::log) (a42 F dst (.tuple [])) H
 |_=>none
theorem c7o(dst:Option Nat)(op:Op)(ty:TypeId)(pos:String)(after:Array Edge)(j:Nat)(bt:Bool) :
 b0o E ah N call all ({ dst:=dst,op:=op,type:=ty,pos:=pos,after:=after,guard:=some (j,bt) }::al) log F H =
  bif a7f N dst then a0j (a3d all j) λd=>d5u E ah N call all dst op al log F H d bt (a35 F d)else none:=by
 unfold b0o;cases a7f N dst with
 |false=>rfl
 |true=>
  simp only[f2v];cases a3d all j with
  |none=>rfl
  |some d=>simp only[a0j];unfold d5u;rfl
section
variable {dst:Option Nat}{op:Op}{d:Nat}
theorem e0s:d5u E ah N call all dst op al log F H d true (.bool true)=a0j (a10 E ah call ((d,.bool true)::F) H op) λx=>b0o E ah N call all al (x.2.2::log) (a42 ((d,.bool true)::F) dst x.1) x.2.1:=by rfl
theorem e0t:d5u E ah N call all dst op al log F H d true (.bool false)=b0o E ah N call all al (⟨[],[]⟩::log) (a42 ((d,.bool false)::F) dst (.tuple [])) H:=by rfl
theorem e0u:d5u E ah N call all dst op al log F H d false (.bool true)=b0o E ah N call all al (⟨[],[]⟩::log) (a42 ((d,.bool true)::F) dst (.tuple [])) H:=by rfl
theorem e0v:d5u E ah N call all dst op al log F H d false (.bool false)=a0j (a10 E ah call ((d,.bool false)::F) H op) λx=>b0o E ah N call all al (x.2.2::log) (a42 ((d,.bool false)::F) dst x.1) x.2.1:=by rfl
theorem e0r{bt:Bool}:d5u E ah N call all dst op al log F H d bt (.tuple [])=b0o E ah N call all al (⟨[],[]⟩::log) (a42 F dst (.tuple [])) H:=by cases bt<;>rfl
end
attribute [go_sem] e0w c7o e0s e0t e0u e0v e0r
@[congr] theorem e3z{dst:Option Nat}{op:Op}{d:Nat}{bt:Bool}{v v':AV}(h:v=v'):d5u E ah N call all dst op al log F H d bt v=d5u E ah N call all dst op al log F H d bt v':=by rw[h]
/-! ### one operation -/
@[go_sem] theorem f0p(x:Operand):a10 E ah call F H (.move x)=some (opv E F x,H,⟨[],[]⟩):=by rfl
@[go_sem] theorem e5d(x:Operand):a10 E ah call F H (.assign x)=some (opv E F x,H,⟨[],[]⟩):=by rfl
theorem a1y{op:Op}{v:Option AV}(h:aop E H.length (a02 H) op (opv E F)=v.map (·,.none))(hs:a10 E ah call F H op=match aop E H.length (a02 H) op (opv E F)with
 |some (v,e)=>bif e.fits H.length then some (v,b25 H e,⟨a98 op (opv E F),e.keys H.length⟩)else none
 |none=>none):a10 E ah call F H op=a0j v λv=>some (v,H,⟨a98 op (opv E F),[]⟩):=by
 rw[hs,h];cases v<;>rfl
@[go_sem] theorem f4e(op:BinOp)(t:TypeId)(x y:Operand)(z):a10 E ah call F H (.binOp op t x y z)=a0j (b2d E op t (opv E F x) (opv E F y) (a4y x||a4y y)) λv=>some (v,H,⟨[],[]⟩):=a1y rfl rfl
@[go_sem] theorem f9g(op:UnOp)(t:TypeId)(x:Operand):a10 E ah call F H (.unOp op t x)=a0j (aun op (opv E F x)) λv=>some (v,H,⟨[],[]⟩):=a1y rfl rfl
@[go_sem] theorem f0r(s d:TypeId)(x:Operand):a10 E ah call F H (.convert s d x)=a0j (a7i E (a02 H) s d (opv E F x)) λv=>some (v,H,⟨a0l (opv E F x),[]⟩):=a1y rfl rfl
@[go_sem] theorem f0q(t:TypeId)(x:Operand):a10 E ah call F H (.load t x)=a0j (a6q E (a02 H) t (opv E F x)) λv=>some (v,H,⟨a0l (opv E F x),[]⟩):=a1y rfl rfl
@[go_sem] theorem e8c(t:TypeId)(x:Operand)(lo hi mx:Option Operand):a10 E ah call F H (.slice t x lo hi mx)=a0j (a5z E (a02 H) t (opv E F x) (lo.map (opv E F)) (hi.map (opv E F)) (mx.map (opv E F))) λv=>some (v,H,⟨a0l (opv E F x),[]⟩):=a1y rfl rfl
@[go_sem] theorem d8z(t:TypeId)(x:Operand)(f:Nat):a10 E ah call F H (.fieldAddr t x f)=a0j (a6a E t (opv E F x) f) λv=>some (v,H,⟨[],[]⟩):=a1y rfl rfl
@[go_sem] theorem e8e(t:TypeId)(x:Operand)(f:Nat):a10 E ah call F H (.field t x f)=a0j (b8e E t (opv E F x) f) λv=>some (v,H,⟨[],[]⟩):=a1y rfl rfl
@[go_sem] theorem d8y(t:TypeId)(x i:Operand):a10 E ah call F H (.indexAddr t x i)=a0j (a15 E (a02 H) t (opv E F x) (opv E F i)) λv=>some (v,H,⟨a0l (opv E F x),[]⟩):=a1y rfl rfl
@[go_sem] theorem e8d(t:TypeId)(x i:Operand):a10 E ah call F H (.index t x i)=a0j (b8d E t (opv E F x) (opv E F i)) λv=>some (v,H,⟨[],[]⟩):=a1y rfl rfl
@[go_sem] theorem e8f(t:TypeId)(ps:Array (Nat×Operand)):a10 E ah call F H (.build t ps)=a0j (b8i E t (ps.toList.map λp=>(p.1,opv E F p.2))) λv=>some (v,H,⟨[],[]⟩):=a1y rfl rfl
@[go_sem] theorem e5c(t:TypeId)(x k:Operand)(o:Bool):a10 E ah call F H (.lookup t x k o)=a0j (oor (a5e E (a02 H) t (opv E F x) (opv E F k) o) (b64 E (a02 H) t (opv E F x) (opv E F k) o)) λv=>some (v,H,⟨a0l (opv E F x),[]⟩):=a1y rfl rfl
@[go_sem] theorem e0d(fn:Fn)(first cap:Array Operand):a10 E ah call F H (.makeFunc fn first cap)=some (.func fn (first.toList.map (opv E F)) (cap.toList.map (opv E F)),H,⟨[],[]⟩):=by rfl
def c2t(c a b:AV):Option AV:=match c with|.bool t=>some (b6m t a b)|_=>none
@[go_sem] theorem f0o(c a b:Operand):a10 E ah call F H (.pick c a b)=a0j (c2t (opv E F c) (opv E F a) (opv E F b)) λv=>some (v,H,⟨[],[]⟩):=by refine a1y ?_ rfl;simp only[aop,c2t];cases opv E F c<;>rfl
@[go_sem] theorem e35(t a b:Bool):c2t (.bool t) (.bool a) (.bool b)=some (.bool (bif t then a else b)):=by rfl
@[go_sem] theorem e34(a b:AV):c2t (.bool true) a b=some (b6m true a b):=by rfl
@[go_sem] theorem d9r(a b:AV):c2t (.bool false) a b=some (b6m false a b):=by rfl
theorem e32(a b:AV):b6m true a b=a:=by unfold b6m;split<;>simp
theorem e33(a b:AV):b6m false a b=b:=by unfold b6m;split<;>simp
attribute [go_sem] e32 e33
def a7g(x:AV):Option AV:=match x with
 |.ptr b i o=>some (.ptr b i o)
 |.iptr cs=>some (.iptr cs)
 |.func (.func f) fs cs=>some (.func (.func f) fs cs)
 |_=>none
attribute [go_sem] a7g
@[go_sem] theorem e0c(x:Operand):a10 E ah call F H (.nilCheck x)=a0j (a7g (opv E F x)) λv=>some (v,H,⟨[],[]⟩):=by
 refine a1y ?_ rfl;simp only[aop];generalize opv E F x=y;cases y<;>try rfl
 rename_i fn _ _;cases fn<;>rfl
def c0a(x:AV)(i:Nat):Option AV:=match x with|.tuple vs=>vs[i]?|_=>none
attribute [go_sem] c0a
@[go_sem] theorem e3w(t:Operand)(i:Nat):a10 E ah call F H (.extract t i)=a0j (c0a (opv E F t) i) λv=>some (v,H,⟨[],[]⟩):=by
 refine a1y ?_ rfl;simp only[aop,c0a];cases opv E F t with
 |tuple vs=>simp only;cases vs[i]?<;>rfl
 |_=>rfl
theorem a7l{op:Op}{v:Option (AV×Eff)}(h:aop E H.length (a02 H) op (opv E F)=v)(hs:a10 E ah call F H op=match aop E H.length (a02 H) op (opv E F)with
 |some (v,e)=>bif e.fits H.length then some (v,b25 H e,⟨a98 op (opv E F),e.keys H.length⟩)else none
 |none=>none){n:List Nat}(hn:a98 op (opv E F)=n):a10 E ah call F H op=a0j v λx=>bif x.2.fits H.length then some (x.1,b25 H x.2,⟨n,x.2.keys H.length⟩)else none:=by
 rw[hs,h];subst hn;cases v<;>rfl
@[go_sem] theorem e8g(t:TypeId):a10 E ah call F H (.alloc t)=a0j (e37 E H.length t) λx=>bif x.2.fits H.length then some (x.1,b25 H x.2,⟨[],x.2.keys H.length⟩)else none:=a7l rfl rfl rfl
@[go_sem] theorem f4d(t:TypeId)(x:Operand):a10 E ah call F H (.box t x)=a0j (e3j H.length (opv E F x)) λx=>bif x.2.fits H.length then some (x.1,b25 H x.2,⟨[],x.2.keys H.length⟩)else none:=a7l rfl rfl rfl
@[go_sem] theorem e8b(t:TypeId)(a x:Operand):a10 E ah call F H (.store t a x)=a0j (a89 E (a02 H) t (opv E F a) (opv E F x)) λe=>bif e.fits H.length then some (.tuple [],b25 H e,⟨a0l (opv E F a),e.keys H.length⟩)else none:=by refine(a7l (v:=(a89 E (a02 H) t (opv E F a) (opv E F x)).map (.tuple [],·)) rfl rfl rfl).trans ?_;cases a89 E (a02 H) t (opv E F a) (opv E F x)<;>rfl
@[go_sem] theorem d5n(t:TypeId)(n:Nat)(ps:Array (Nat×Operand)):a10 E ah call F H (.buildSlice t n ps)=a0j (a3u E H.length t n (ps.toList.map λp=>(p.1,opv E F p.2))) λx=>bif x.2.fits H.length then some (x.1,b25 H x.2,⟨[],x.2.keys H.length⟩)else none:=a7l rfl rfl rfl
@[go_sem] theorem d8x(t:TypeId)(l c:Operand):a10 E ah call F H (.makeSlice t l c)=a0j (a4l E H.length t (opv E F l) (opv E F c)) λx=>bif x.2.fits H.length then some (x.1,b25 H x.2,⟨[],x.2.keys H.length⟩)else none:=a7l rfl rfl rfl
@[go_sem] theorem e3v(t:TypeId):a10 E ah call F H (.makeMap t none)=some (.map H.length,H++[some (b4o E t)],⟨[],[H.length]⟩):=by rfl
@[go_sem] theorem d8w(t:TypeId)(m k x:Operand):a10 E ah call F H (.mapUpdate t m k x)=a0j (oor (a21 E (a02 H) t (opv E F m) (opv E F k) (opv E F x)) (b6l E (a02 H) t (opv E F m) (opv E F k) (opv E F x))) λe=>bif e.fits H.length then some (.tuple [],b25 H e,⟨a0l (opv E F m),e.keys H.length⟩)else none:=by refine(a7l (v:=(oor (a21 E (a02 H) t (opv E F m) (opv E F k) (opv E F x)) (b6l E (a02 H) t (opv E F m) (opv E F k) (opv E F x))).map (.tuple [],·)) rfl rfl rfl).trans ?_;cases oor (a21 E (a02 H) t (opv E F m) (opv E F k) (opv E F x)) (b6l E (a02 H) t (opv E F m) (opv E F k) (opv E F x))<;>rfl
@[go_sem] theorem f4b(x:Operand)(t:TypeId):a10 E ah call F H (.call { callee:=.builtin .len,args:=#[x],argTypes:=#[t] })=a0j (c07 E (a02 H) t (opv E F x)) λv=>some (v,H,⟨a0l (opv E F x),[]⟩):=by refine(a1y (v:=c07 E (a02 H) t (opv E F x)) rfl rfl).trans ?_;simp[a98]
@[go_sem] theorem f4c(x:Operand)(t:TypeId):a10 E ah call F H (.call { callee:=.builtin .cap,args:=#[x],argTypes:=#[t] })=a0j (e3g E t (opv E F x)) λv=>some (v,H,⟨a0l (opv E F x),[]⟩):=by refine(a1y (v:=e3g E t (opv E F x)) rfl rfl).trans ?_;simp[a98]
@[go_sem] theorem f3z(x:Operand)(xs:List Operand)(ts:Array TypeId):a10 E ah call F H (.call { callee:=.builtin .min,args:=⟨x::xs⟩,argTypes:=ts })=a0j (d9t (opv E F x) (xs.map (opv E F))) λv=>some (v,H,⟨(x::xs).flatMap λx=>a0l (opv E F x),[]⟩):=a1y rfl rfl
@[go_sem] theorem f4a(x:Operand)(xs:List Operand)(ts:Array TypeId):a10 E ah call F H (.call { callee:=.builtin .max,args:=⟨x::xs⟩,argTypes:=ts })=a0j (d50 (opv E F x) (xs.map (opv E F))) λv=>some (v,H,⟨(x::xs).flatMap λx=>a0l (opv E F x),[]⟩):=a1y rfl rfl
@[go_sem] theorem e5e(x y:Operand)(t u:TypeId):a10 E ah call F H (.call { callee:=.builtin .append,args:=#[x,y],argTypes:=#[t,u] })=a0j (oor (a52 E (a02 H) H.length t u (opv E F x) (opv E F y)) (a39 E H.length t u (opv E F x) (opv E F y))) λz=>bif z.2.fits H.length then some (z.1,b25 H z.2,⟨a0l (opv E F x)++a0l (opv E F y),z.2.keys H.length⟩)else none:=a7l rfl rfl (by simp[a98])
@[go_sem] theorem e4z{E:Env}{n:Nat}{t u:TypeId}{x:AV}{b off len:Nat}{cap:Option Nat}:a39 E n t u (.slice b off len cap) x=none:=by unfold a39;rfl
@[go_sem] theorem e3m{E:Env}{n:Nat}{t u:TypeId}{b off len:Nat}{cap:Option Nat}:a39 E n t u .nilslice (.slice b off len cap)=none:=by unfold a39;rfl
@[go_sem] theorem e8y{α:Type}(x:Option α):oor x none=x:=by cases x<;>rfl
@[go_sem] theorem e8x{α:Type}(x:α)(y:Option α):oor (some x) y=some x:=by rfl
@[go_sem] theorem e0y{g:FuncId}{fs cs:List AV}{H H':a03}{σ:List Nat}:a75 E (.func (.func g) fs cs) H H' σ=(E.ro g&&σ.all λb=>b30 (a02 H b) (a02 H' b)):=by rfl
@[go_sem] theorem e7h{α:Type}(b:Bool)(x:α):(bif b then x else x)=x:=by cases b<;>rfl
@[go_sem] theorem e4a(ro:Bool)(σ:List Nat)(n:Nat):b6d ro σ n n=bif ro then[]else σ:=by unfold b6d;rw[cond_eq_ite,f2w (by rw[g0j])]
attribute [go_sem] List.range'_succ List.range'_zero
@[go_sem] theorem f0s(f:Operand)(args:Array Operand)(ts:Array TypeId):a10 E ah call F H (.call { callee:=.value f,args:=args,argTypes:=ts })=a0j (a20 E ah call (opv E F f) (args.toList.map (opv E F)) H) λx=>some (x.1,x.2.1,⟨x.2.2,b6d (a75 E (opv E F f) H x.2.1 x.2.2) x.2.2 H.length x.2.1.length⟩):=by simp only[a10];cases a20 E ah call (opv E F f) (args.toList.map (opv E F)) H<;>rfl
end
/-! ### tables read by type -/
section
variable (E:Env)
def a6o(t:TypeId):Option Bool:=(E.und t).map a2m
def a53(t:TypeId)(f:Nat):Option (Nat×TypeId):=match E.und t with|some (.struct fs)=>(fs[f]?).map λd=>(d.offset,d.type)|_=>none
def c4n(t:TypeId):Bool:=match E.und t with
 |some (.struct fs)=>fs.toList.all (λf=>(E.und f.type).isSome)
 |some (.array _ e)=>(E.und e).isSome
 |_=>false
def a8g(t:TypeId)(i:Nat):Option (Nat×Nat):=match E.und t with
 |some (.struct fs)=>(fs[i]?).map λf=>(f.offset,E.sz f.type)
 |some (.array _ e)=>some (i*E.sz e,E.sz e)
 |_=>none
def isT(t:TypeId):Bool:=(E.und t).isSome
end
section
variable {E:Env}{h:FHeap}
def e18:Option Bool->List AV->Option AV
 |some true,cs=>some (.agg cs)
 |some false,cs=>cs.head?
 |none,_=>none
attribute [go_sem] e18 List.head?_cons
@[go_sem] theorem e69(t:TypeId)(cs:List AV):a2r E t cs=bif decide (cs.length=E.sz t)then e18 (a6o E t) cs else none:=by
 unfold a2r a6o;have e:(cs.length==E.sz t)=decide (cs.length=E.sz t):=by by_cases h:cs.length=E.sz t<;>simp[h]
 rw[e];cases E.und t with
 |none=>cases decide (cs.length=E.sz t)<;>rfl
 |some d=>cases decide (cs.length=E.sz t)<;>simp[e18]<;>cases a2m d<;>rfl
@[go_sem] theorem e9w(t:TypeId)(cs:List AV)(f:Nat):b8e E t (.agg cs) f=a0j (a53 E t f) λx=>a2r E x.2 ((cs.drop x.1).take (E.sz x.2)):=by
 unfold b8e a53;cases E.und t with
 |none=>rfl
 |some d=>
  cases d<;>try rfl
  rename_i fs;simp only;cases fs[f]?<;>rfl
def fieldAt(E:Env)(p:AV)(o:Nat)(t:TypeId):Option AV:=
 bif decide (E.sz t≠0)&&isT E t then match p with
  |.ptr b i q=>some (.ptr b i (q+o))
  |.iptr cs=>some (.iptr (cs.drop o))
  |_=>none
 else none
attribute [go_sem] fieldAt
@[go_sem] theorem d9v(t:TypeId)(p:AV)(f:Nat):a6a E t p f=a0j (a53 E t f) λx=>fieldAt E p x.1 x.2:=by
 unfold a6a a53 fieldAt isT;cases E.und t with
 |none=>rfl
 |some d=>
  cases d<;>try rfl
  rename_i fs;simp only;cases fs[f]? with
  |none=>rfl
  |some fd=>
   by_cases h:E.sz fd.type=0
   ·simp[h,a0j]
   ·have e:(E.sz fd.type==0)=false:=f6o.2 h;simp[h,e,a0j];rfl
@[go_sem] theorem e9y(t:TypeId)(aq:List (Nat×AV)):b8i E t aq=bif c4n E t then a0j (E.zero t) λz=>a0j (b2a (a8g E t) z aq) λcs=>some (.agg cs)else none:=by
 unfold b8i c4n a8g;cases hz:E.zero t with
 |none=>
  simp only[a0j];cases E.und t with
  |none=>rfl
  |some d=>cases d<;>simp
 |some z=>
  cases hu:E.und t with
  |none=>rfl
  |some d=>
   cases d<;>try rfl
   ·simp only[a0j];split<;>simp_all<;>split<;>simp_all<;>rfl
   ·simp only[a0j];split<;>simp_all<;>split<;>simp_all<;>rfl
end
/-! ### values -/
section
variable {E:Env}{h:FHeap}{t:TypeId}{k:IntKind}{a b:Int}{p q:Bool}{c:Bool}
theorem ikb(k:IntKind):(k==k)=true:=by cases k<;>rfl
@[go_sem] theorem f0a:b2d E .add t (.int k a) (.int k b) c=some (.int k (k.wrap (a+b))):=by simp only[b2d,ikb,c6w,f2v]
@[go_sem] theorem f00:b2d E .sub t (.int k a) (.int k b) c=some (.int k (k.wrap (a-b))):=by simp only[b2d,ikb,c6w,f2v]
@[go_sem] theorem f03(hb:(b=0)=False):b2d E .quo t (.int k a) (.int k b) c=some (.int k (k.wrap (a.tdiv b))):=by
 have:(b==0)=false:=by rw[f6o];exact λe=>hb▸e
 simp only[b2d,ikb,c6w,f2v,this,f4i]
@[go_sem] theorem f02(hb:(b=0)=False):b2d E .rem t (.int k a) (.int k b) c=some (.int k (a.tmod b)):=by
 have:(b==0)=false:=by rw[f6o];exact λe=>hb▸e
 simp only[b2d,ikb,c6w,f2v,this,f4i]
def f1v(k:IntKind)(a b:Int):Int:=k.wrap (BitVec.ofInt k.bits a^^^BitVec.ofInt k.bits b).toNat
@[go_sem] theorem e9z:b2d E .xor t (.int k a) (.int k b) c=some (.int k (f1v k a b)):=by simp only[b2d,ikb,c6w,f2v,f1v]
theorem f7y(a b:Int):(a==b)=decide (a=b):=by
 by_cases h:a=b
 ·subst h;simp
 ·rw[f6o.2 h,f6w h]
@[go_sem] theorem f09:b2d E .eql t (.int k a) (.int k b) c=some (.bool (decide (a=b))):=by simp only[b2d,ikb,c6w,f2v,f7y]
@[go_sem] theorem f04:b2d E .neq t (.int k a) (.int k b) c=some (.bool (!decide (a=b))):=by simp only[b2d,ikb,c6w,f2v,bne,f7y]
@[go_sem] theorem f05:b2d E .lss t (.int k a) (.int k b) c=some (.bool (decide (a<b))):=by simp only[b2d,ikb,c6w,f2v]
@[go_sem] theorem f06:b2d E .leq t (.int k a) (.int k b) c=some (.bool (decide (a<=b))):=by simp only[b2d,ikb,c6w,f2v]
@[go_sem] theorem f07:b2d E .gtr t (.int k a) (.int k b) c=some (.bool (decide (b<a))):=by simp only[b2d,ikb,c6w,f2v]
@[go_sem] theorem f08:b2d E .geq t (.int k a) (.int k b) c=some (.bool (decide (b<=a))):=by simp only[b2d,ikb,c6w,f2v]
@[go_sem] theorem f01{op:BinOp}{x y:List UInt8}(h1:op≠ .shl:=by decide)(h2:op≠ .shr:=by decide):b2d E op t (.str x) (.str y) c=e4n op x y:=by cases op<;>first|rfl|exact absurd rfl h1|exact absurd rfl h2
@[go_sem] theorem f3o:aun .not (.bool p)=some (.bool (!p)):=by rfl
@[go_sem] theorem e52(o:Option AObj)(r:a03):a02 (o::r) 0=o:=by simp[a02]
@[go_sem] theorem e53(o:Option AObj)(r:a03)(n:Nat):a02 (o::r) (n+1)=a02 r n:=by simp[a02]
@[go_sem] theorem e84(n:Nat):a02 [] n=none:=by rfl
def slT(E:Env)(t:TypeId):Option TypeId:=match E.und t with|some (.slice e)=>some e|_=>none
theorem a4r{e:TypeId}:slT E t=some e↔E.und t=some (.slice e):=by
 unfold slT;constructor
 ·intro h;split at h
  ·rename_i cS;cases h;exact cS
  ·cases h
 ·intro h;rw[h]
def a9g:Option AObj->Option (Nat×List (List AV))
 |some (.row k aa)=>some (k,aa)
 |_=>none
attribute [go_sem] a9g
def rowAt(aa:List (List AV))(i:Int):Option (List AV):=if 0<=i then aa[i.toNat]? else none
@[go_sem] theorem d0y(aa:List (List AV))(n:Nat):rowAt aa (n:Int)=aa[n]?:=by simp[rowAt]
theorem d0x{aa:List (List AV)}{i:Int}(h:0<=i):rowAt aa i=aa[i.toNat]?:=by simp[rowAt,h]
def inR(i:Int)(n:Nat):Bool:=decide (0<=i)&&decide (i<n)
@[go_sem] theorem b9g(j n:Nat):inR (j:Int) n=decide (j<n):=by
 unfold inR;rw[f4m (by omega:(0:Int)<=j),f8f];by_cases h:j<n
 ·rw[f4m h,f4m (by omega)]
 ·rw[f6w h,f6w (by omega)]
theorem b3o{i:Int}{n:Nat}:c9c (.int k i) n=bif inR i n then some i.toNat else none:=rfl
@[go_sem] theorem e4t{b o n:Nat}{cp:Option Nat}(hs:(slT E t).isSome=true):c07 E h t (.slice b o n cp)=some (.int .i64 n):=by obtain⟨e,he⟩:=f1j.1 hs;simp only[c07,a4r.1 he]
@[go_sem] theorem e3a{aa:List (List AV)}{cp:Option Nat}(hs:(slT E t).isSome=true):c07 E h t (.islice aa cp)=some (.int .i64 aa.length):=by obtain⟨e,he⟩:=f1j.1 hs;simp only[c07,a4r.1 he]
@[go_sem] theorem e9v(hs:(slT E t).isSome=true):c07 E h t .nilslice=some (.int .i64 0):=by obtain⟨e,he⟩:=f1j.1 hs;simp only[c07,a4r.1 he]
def e5b(E:Env)(t:TypeId):Bool:=match E.und t with|some .string=>true|_=>false
theorem c51:e5b E t=true->E.und t=some .string:=by
 unfold e5b;intro h;split at h
 ·rename_i cS;exact cS
 ·cases h
@[go_sem] theorem e9u{s:List UInt8}(hs:e5b E t=true):c07 E h t (.str s)=some (.int .i64 s.length):=by simp only[c07,c51 hs]
@[go_sem] theorem e9x(hs:(slT E t).isSome=true):e3g E t .nilslice=some (.int .i64 0):=by obtain⟨e,he⟩:=f1j.1 hs;simp only[e3g,a4r.1 he]
def b6f(E:Env)(e:Option TypeId)(r:Option (List AV)):Option AV:=match e,r with
 |some e,some r=>bif isT E e&&decide (r.length=E.sz e)then some (.iptr r)else none
 |_,_=>none
attribute [go_sem] b6f
theorem c6q(a b:Nat):(a==b)=decide (a=b):=by
 by_cases h:a=b
 ·subst h;simp
 ·rw[f6o.2 h,f6w h]
@[go_sem] theorem b58{aa:List (List AV)}{cp:Option Nat}{i:Int}:a15 E h t (.islice aa cp) (.int k i)=match slT E t with|some e=>b6f E (some e) (rowAt aa i)|none=>a15 E h t (.islice aa cp) (.int k i):=by
 cases hs:slT E t with
 |none=>rfl
 |some e=>
  have hu:=a4r.1 hs;simp only[a15,hu,b3o,inR,b6f,isT];by_cases h0:0<=i
  ·rw[f4m h0,d0x h0];by_cases h1:i<aa.length
   ·rw[f4m h1];have:i.toNat<aa.length:=by omega
    simp only[z9e this,f7h,f2v,c6q];cases(E.und e).isSome<;>rfl
   ·rw[f6w h1];rw[f2s (by omega)];simp
  ·simp[h0,rowAt]
def f1y(E:Env)(e:Option TypeId)(ok:Bool)(r:Option (Nat×List (List AV)))(b j:Nat):Option AV:=match e,r with
 |some e,some r=>bif isT E e&&ok&&decide (r.1=E.sz e)then some (.ptr b j 0)else none
 |_,_=>none
attribute [go_sem] f1y Int.toNat_natCast
@[go_sem] theorem e4e{b o n:Nat}{cp:Option Nat}{i:Int}:a15 E h t (.slice b o n cp) (.int k i)=match slT E t with|some e=>f1y E (some e) (inR i n) (a9g (h b)) b (o+i.toNat)|none=>a15 E h t (.slice b o n cp) (.int k i):=by
 cases hs:slT E t with
 |none=>rfl
 |some e=>
  have hu:=a4r.1 hs;simp only[a15,hu,b3o,f1y,isT];cases hb:h b with
  |none=>cases inR i n<;>simp[a9g]
  |some o=>cases o<;>cases inR i n<;>simp[a9g,c6q];cases(E.und e).isSome<;>simp
def c6t(E:Env)(t:TypeId):Option (Nat×TypeId):=match E.und t with|some (.array m e)=>some (m,e)|_=>none
theorem d89{m:Nat}{e:TypeId}:c6t E t=some (m,e)->E.und t=some (.array m e):=by
 unfold c6t;intro h;split at h
 ·rename_i cS;cases h;exact cS
 ·cases h
def b7q(E:Env)(n:Nat)(e:TypeId)(p:AV)(j:Int):Option AV:=
 bif inR j n&&isT E e then match p with
  |.ptr b i o=>some (.ptr b i (o+j.toNat*E.sz e))
  |.iptr cs=>some (.iptr (cs.drop (j.toNat*E.sz e)))
  |_=>none
 else none
@[go_sem] theorem e4d(n:Nat)(e:TypeId)(b i o:Nat)(j:Int):b7q E n e (.ptr b i o) j=bif inR j n&&isT E e then some (.ptr b i (o+j.toNat*E.sz e))else none:=by rfl
@[go_sem] theorem e23(n:Nat)(e:TypeId)(cs:List AV)(j:Int):b7q E n e (.iptr cs) j=bif inR j n&&isT E e then some (.iptr (cs.drop (j.toNat*E.sz e)))else none:=by rfl
theorem c5z{n:Nat}{e:TypeId}{p:AV}{j:Int}(hu:c6t E t=some (n,e)):a15 E h t p (.int k j)=b7q E n e p j:=by
 simp only[a15,d89 hu,b3o,b7q,isT];cases inR j n with
 |false=>rfl
 |true=>simp only[f2v,f8f];cases(E.und e).isSome<;>cases p<;>rfl
@[go_sem] theorem e97{b i o:Nat}{j:Int}:a15 E h t (.ptr b i o) (.int k j)=match c6t E t with|some (n,e)=>b7q E n e (.ptr b i o) j|none=>a15 E h t (.ptr b i o) (.int k j):=by
 cases hu:c6t E t with
 |none=>rfl
 |some x=>exact c5z hu
@[go_sem] theorem e6p{cs:List AV}{j:Int}:a15 E h t (.iptr cs) (.int k j)=match c6t E t with|some (n,e)=>b7q E n e (.iptr cs) j|none=>a15 E h t (.iptr cs) (.int k j):=by
 cases hu:c6t E t with
 |none=>rfl
 |some x=>exact c5z hu
@[go_sem] theorem g0x(n:Nat):inR 0 n=decide (0<n):=b9g 0 n
@[go_sem] theorem f0k:Int.toNat 0=0:=by rfl
@[go_sem] theorem g0w(n:Nat):inR 1 n=decide (1<n):=b9g 1 n
@[go_sem] theorem f0j:Int.toNat 1=1:=by rfl
@[go_sem] theorem g0v(n:Nat):inR 2 n=decide (2<n):=b9g 2 n
@[go_sem] theorem f0i:Int.toNat 2=2:=by rfl
@[go_sem] theorem g0u(n:Nat):inR 3 n=decide (3<n):=b9g 3 n
@[go_sem] theorem f0h:Int.toNat 3=3:=by rfl
@[go_sem] theorem e4u{s:List UInt8}{i:Int}(hs:e5b E t=true):b8d E t (.str s) (.int k i)=bif inR i s.length then(s[i.toNat]?).map (λb=>.int .u8 b.toNat)else none:=by
 simp only[b8d,c51 hs,b3o];cases inR i s.length with
 |false=>rfl
 |true=>simp only[f2v];cases s[i.toNat]?<;>rfl
@[go_sem] theorem e4s{cs:List AV}:a6q E h t (.iptr cs)=a2r E t (cs.take (E.sz t)):=by rfl
@[go_sem] theorem e7x{b i o:Nat}:a6q E h t (.ptr b i o)=a0j (a9g (h b)) λkr=>a0j (kr.2[i]?) λr=>a2r E t ((r.drop o).take (E.sz t)):=by
 unfold a6q;cases hb:h b with
 |none=>simp only[hb];rfl
 |some ob=>cases ob<;>simp only[hb,a9g,a0j];rename_i aa;cases aa[i]?<;>rfl
@[go_sem] theorem e4o{b i o:Nat}{x:AV}:a89 E h t (.ptr b i o) x=a0j (a9g (h b)) λkr=>a0j (kr.2[i]?) λr=>
 bif decide (x.cells.length=E.sz t)&&isT E t&&Nat.ble (o+x.cells.length) r.length&&x.cells.all AV.storable then some (.set b (.row kr.1 (kr.2.set i (splice r o x.cells))))else none:=by
 unfold a89;cases hb:h b with
 |none=>simp only[hb];rfl
 |some ob=>cases ob<;>simp only[hb,a9g,a0j];rename_i aa;cases aa[i]?<;>simp only[isT,c6q]
@[go_sem] theorem f8a{n:Nat}:e37 E n t=a0j (E.zero t) λz=>bif decide (0<z.length)then some (.ptr n 0 0,.new (.row z.length [z]))else none:=by
 unfold e37;cases E.zero t with
 |none=>rfl
 |some z=>simp only[a0j];cases z<;>rfl
@[go_sem] theorem f8b{n:Nat}{x:AV}:e3j n x=bif !x.isJunk&&decide (0<x.cells.length)then some (.ptr n 0 0,.new (.row x.cells.length [x.cells]))else none:=by
 have e:Nat.blt 0 x.cells.length=decide (0<x.cells.length):=by rw[g0i];simp[f4o]
 cases x<;>simp only[e3j,e,AV.isJunk,Bool.not_false,f8f,f8t,Bool.false_and,f4i]
theorem d4z(a b:Nat):Nat.ble a b=decide (a<=b):=by rw[g0i];simp[f7k]
theorem c9r(a b:Nat):Nat.blt a b=decide (a<b):=by rw[g0i];simp[f4o]
attribute [go_sem] d4z c9r
@[go_sem] theorem e8h(r:List AV)(o:Nat)(cs:List AV):splice r o cs=r.take o++cs++r.drop (o+cs.length):=by rfl
def c8a(E:Env)(e:TypeId)(l c:Int):Bool:=decide (0<=l)&&decide (l<=c)&&decide (c<=281474976710656)&&decide ((E.bytes e:Int)*c<=281474976710656)
@[go_sem] theorem d9u{n:Nat}{k':IntKind}{l c:Int}:a4l E n t (.int k l) (.int k' c)=a0j (slT E t) λe=>a0j (E.zero e) λz=>bif c8a E e l c&&decide (0<z.length)then
 some (AV.slice n 0 l.toNat (some c.toNat),Eff.new (.row z.length (List.replicate c.toNat z)))else none:=by
 cases hs:slT E t with
 |none=>
  unfold a4l;unfold slT at hs;cases hu:E.und t with
  |none=>rfl
  |some d=>cases d<;>first|rfl|(rw[hu]at hs;cases hs)
 |some e=>have hu:=a4r.1 hs;simp only[a4l,hu,a0j,c8a,c9r];cases E.zero e<;>rfl
theorem a7s{e:TypeId}{m:Nat}(h:m<=1000000000)(hb:E.bytes e<=1000):c8a E e (m:Int) (m:Int)=true:=by
 unfold c8a;have h1:E.bytes e*m<=1000*1000000000:=Nat.mul_le_mul hb h;have h2:((E.bytes e:Int)*(m:Int))=((E.bytes e*m:Nat):Int):=by simp
 rw[h2];simp only[f1d,f2y];omega
@[go_sem] theorem d8j{n m:Nat}{ps:List (Nat×AV)}:a3u E n t m ps=a0j (slT E t) λe=>a0j (E.zero e) λz=>bif decide (0<z.length)&&decide (m*z.length<=16777216)then
 a0j (b62 z.length (List.replicate m z) ps) λaa=>some (AV.slice n 0 m (some m),Eff.new (.row z.length aa))else none:=by
 cases hs:slT E t with
 |none=>
  unfold a3u;unfold slT at hs;cases hu:E.und t with
  |none=>rfl
  |some d=>cases d<;>first|rfl|(rw[hu]at hs;cases hs)
 |some e=>
  have hu:=a4r.1 hs;simp only[a3u,hu,a0j];cases E.zero e with
  |none=>rfl
  |some z=>
   simp only[c9r,d4z];cases decide (0<z.length)&&decide (m*z.length<=16777216)with
   |false=>rfl
   |true=>simp only[f2v];cases b62 z.length (List.replicate m z) ps<;>rfl
@[go_sem] theorem e7t(m:Nat)(aa:List (List AV)):b62 m aa []=some aa:=by rfl
@[go_sem] theorem e4r(m:Nat)(aa:List (List AV))(i:Nat)(v:AV)(r:List (Nat×AV)):b62 m aa ((i,v)::r)=bif !v.isJunk&&decide (v.cells.length=m)&&decide (i<aa.length)then b62 m (aa.set i v.cells) r else none:=by simp only[b62,c6q,c9r]
@[go_sem] theorem e7y(pl:Nat->Option (Nat×Nat))(cs:List AV):b2a pl cs []=some cs:=by rfl
@[go_sem] theorem e4v(pl:Nat->Option (Nat×Nat))(cs:List AV)(i:Nat)(v:AV)(r:List (Nat×AV)):b2a pl cs ((i,v)::r)=a0j (pl i) λx=>bif !v.isJunk&&decide (v.cells.length=x.2)&&decide (x.1+x.2<=cs.length)then b2a pl (splice cs x.1 v.cells) r else none:=by
 simp only[b2a];cases pl i with
 |none=>rfl
 |some x=>simp only[a0j,c6q,d4z]
@[go_sem] theorem e7e{H:a03}:b25 H .none=H:=by rfl
@[go_sem] theorem e9l{H:a03}{o:AObj}:b25 H (.new o)=H++[some o]:=by rfl
@[go_sem] theorem e9k{H:a03}{b:Nat}{o:AObj}:b25 H (.set b o)=H.set b (some o):=by rfl
@[go_sem] theorem e7f{H:a03}{b:Nat}{o:AObj}:b25 H (.kill b o)=H.set b none++[some o]:=by rfl
@[go_sem] theorem e9j{n:Nat}{o:AObj}:Eff.fits n (.new o)=true:=by rfl
@[go_sem] theorem e77{n:Nat}:Eff.fits n .none=true:=by rfl
@[go_sem] theorem e9i{n b:Nat}{o:AObj}:Eff.fits n (.set b o)=decide (b<n):=c9r b n
@[go_sem] theorem e78{n b:Nat}{o:AObj}:Eff.fits n (.kill b o)=decide (b<n):=c9r b n
attribute [go_sem] List.all_cons List.all_nil List.set_cons_zero List.set_cons_succ List.set_nil List.replicate_zero
end
@[go_sem] theorem e4m(b:Bool):AV.cells (.bool b)=[(AV.bool b)]:=by rfl
@[go_sem] theorem d5k(b:Bool):AV.storable (.bool b)=true:=by rfl
@[go_sem] theorem e7j(k:IntKind)(n:Int):AV.cells (.int k n)=[(AV.int k n)]:=by rfl
@[go_sem] theorem d8u(k:IntKind)(n:Int):AV.storable (.int k n)=true:=by rfl
@[go_sem] theorem e93(k:IntKind)(n:Int):AV.isJunk (.int k n)=false:=by rfl
@[go_sem] theorem e3u(k:IntKind)(n:Int):a0l (.int k n)=[]:=by rfl
@[go_sem] theorem e7i(s:List UInt8):AV.cells (.str s)=[(AV.str s)]:=by rfl
@[go_sem] theorem d8t(s:List UInt8):AV.storable (.str s)=true:=by rfl
@[go_sem] theorem e92(s:List UInt8):AV.isJunk (.str s)=false:=by rfl
@[go_sem] theorem e3r(s:List UInt8):a0l (.str s)=[]:=by rfl
@[go_sem] theorem d4y:AV.cells .nilslice=[AV.nilslice]:=by rfl
@[go_sem] theorem c7c:AV.storable .nilslice=true:=by rfl
@[go_sem] theorem d70:AV.isJunk .nilslice=false:=by rfl
@[go_sem] theorem d03:a0l .nilslice=[]:=by rfl
@[go_sem] theorem e3s(b i o:Nat):a0l (.ptr b i o)=[b]:=by rfl
@[go_sem] theorem e09(l:List AV):a0l (.iptr l)=[]:=by rfl
@[go_sem] theorem e2o(b o n:Nat)(c:Option Nat):AV.cells (.slice b o n c)=[(AV.slice b o n c)]:=by rfl
@[go_sem] theorem d4u(b o n:Nat)(c:Option Nat):AV.storable (.slice b o n c)=true:=by rfl
@[go_sem] theorem e4c(b o n:Nat)(c:Option Nat):AV.isJunk (.slice b o n c)=false:=by rfl
@[go_sem] theorem d8r(b o n:Nat)(c:Option Nat):a0l (.slice b o n c)=[b]:=by rfl
@[go_sem] theorem d9n(r:List (List AV))(c:Option Nat):AV.cells (.islice r c)=[(AV.islice r c)]:=by rfl
@[go_sem] theorem d0b(r:List (List AV))(c:Option Nat):AV.storable (.islice r c)=true:=by rfl
@[go_sem] theorem e1y(r:List (List AV))(c:Option Nat):AV.isJunk (.islice r c)=false:=by rfl
@[go_sem] theorem d5f(r:List (List AV))(c:Option Nat):a0l (.islice r c)=[]:=by rfl
@[go_sem] theorem e3t(b:Nat):a0l (.map b)=[b]:=by rfl
@[go_sem] theorem e4l(f:Fn)(a b:List AV):AV.cells (.func f a b)=[(AV.func f a b)]:=by rfl
@[go_sem] theorem d5j(f:Fn)(a b:List AV):AV.storable (.func f a b)=true:=by rfl
@[go_sem] theorem e6m(f:Fn)(a b:List AV):AV.isJunk (.func f a b)=false:=by rfl
@[go_sem] theorem e7k(l:List AV):AV.cells (.agg l)=l:=by rfl
@[go_sem] theorem e94(l:List AV):AV.isJunk (.agg l)=false:=by rfl
@[go_sem] theorem e6i(n:Nat):Eff.keys n .none=[]:=by rfl
@[go_sem] theorem e91(n:Nat)(o:AObj):Eff.keys n (.new o)=[n]:=by rfl
@[go_sem] theorem e90(n b:Nat)(o:AObj):Eff.keys n (.set b o)=[b]:=by rfl
@[go_sem] theorem e6j(n b:Nat)(o:AObj):Eff.keys n (.kill b o)=[b,n]:=by rfl
@[go_sem] theorem f9x:1+1=2:=by rfl
@[go_sem] theorem f9w:2+1=3:=by rfl
@[go_sem] theorem f9v:3+1=4:=by rfl
@[go_sem] theorem f9u:4+1=5:=by rfl
@[go_sem] theorem f9t:5+1=6:=by rfl
@[go_sem] theorem f9s:6+1=7:=by rfl
@[go_sem] theorem f9r:7+1=8:=by rfl
@[go_sem] theorem f9q:8+1=9:=by rfl
@[go_sem] theorem f9p:9+1=10:=by rfl
@[go_sem] theorem f5r:10+1=11:=by rfl
@[go_sem] theorem f5q:11+1=12:=by rfl
@[go_sem] theorem f5p:12+1=13:=by rfl
@[go_sem] theorem f5l:2+2=4:=by rfl
@[go_sem] theorem f5k:2+3=5:=by rfl
@[go_sem] theorem f5j:3+2=5:=by rfl
@[go_sem] theorem f5i:3+3=6:=by rfl
@[go_sem] theorem f5h:4+2=6:=by rfl
@[go_sem] theorem f5g:5+2=7:=by rfl
@[go_sem] theorem f5f:5+4=9:=by rfl
@[go_sem] theorem f5e:6+2=8:=by rfl
@[go_sem] theorem f5d:6+3=9:=by rfl
@[go_sem] theorem f5c:7+2=9:=by rfl
@[go_sem] theorem f5o:1+2=3:=by rfl
@[go_sem] theorem f5n:1+3=4:=by rfl
@[go_sem] theorem f5m:1+4=5:=by rfl
@[go_sem] theorem e8n{α:Type}(a:α):List.replicate 1 a=[a]:=by rfl
@[go_sem] theorem e8m{α:Type}(a:α):List.replicate 2 a=[a,a]:=by rfl
@[go_sem] theorem e8l{α:Type}(a:α):List.replicate 3 a=[a,a,a]:=by rfl
attribute [go_sem] List.map_cons List.map_nil List.append_nil List.nil_append List.cons_append List.length_cons List.length_nil a2m cond_true cond_false Option.map_some Option.map_none List.drop_zero List.drop_succ_cons List.take_succ_cons List.take_zero List.drop_nil List.take_nil List.getElem?_cons_zero List.getElem?_cons_succ List.getElem?_nil Nat.zero_add Nat.add_zero Nat.zero_mul Nat.mul_one decide_true decide_false Bool.and_true Bool.true_and Bool.and_false Bool.false_and Bool.or_true Bool.true_or Bool.or_false Bool.false_or Bool.not_true Bool.not_false Option.bind_some Option.isSome_some a3d decide_eq_true_eq
end Go.Ax
/- AxFlat: values that refer to no mutable block: renaming and freezing leave them; calls on them. -/
namespace Go.Ax
mutual
theorem a0b(π:Nat->Option Nat):∀(v:AV),refs v=[]->ren π v=v
 |.ptr ..,h=>by simp[refs]at h
 |.slice ..,h=>by simp[refs]at h
 |.map ..,h=>by simp[refs]at h
 |.yfn ..,h=>by simp[refs]at h
 |.func fn fs cs,h=>by simp only[refs,f8e]at h;simp only[ren,a76 π fs h.1,a76 π cs h.2]
 |.iface t x,h=>by simp only[refs]at h;simp only[ren,a0b π x h]
 |.agg cs,h=>by simp only[refs]at h;simp only[ren,a76 π cs h]
 |.tuple cs,h=>by simp only[refs]at h;simp only[ren,a76 π cs h]
 |.junk,_|.bool _,_|.int ..,_|.str _,_|.nilptr,_|.nilslice,_|.nilmap,_|.nilfunc,_|.nilifc,_|.iptr _,_|.islice ..,_|.imap ..,_|.iset _,_=>rfl
theorem a76(π:Nat->Option Nat):∀(l:List AV),a0d l=[]->c0g π l=l
 | [],_=>rfl
 |v::vs,h=>by simp only[a0d,f8e]at h;simp only[c0g,a0b π v h.1,a76 π vs h.2]
end
theorem a31(π:Nat->Option Nat){l:List AV}(h:a0d l=[]):l.map (ren π)=l:=by rw[<-a7o];exact a76 π l h
mutual
theorem a0i(m:Nat)(top:Bool)(d:AV->Option AV):∀(v:AV),refs v=[]->a36 m top d v=some v
 |.ptr ..,h=>by simp[refs]at h
 |.slice ..,h=>by simp[refs]at h
 |.map ..,h=>by simp[refs]at h
 |.yfn ..,h=>by simp[refs]at h
 |.func fn fs cs,h=>by simp only[refs,f8e]at h;simp only[a36,a6m m top d fs h.1,a6m m top d cs h.2]
 |.iface t x,h=>by simp only[refs]at h;simp only[a36,a0i m top d x h]
 |.agg cs,h=>by simp only[refs]at h;simp only[a36,a6m m top d cs h]
 |.tuple cs,h=>by simp only[refs]at h;simp only[a36,a6m m top d cs h]
 |.junk,_|.bool _,_|.int ..,_|.str _,_|.nilptr,_|.nilslice,_|.nilmap,_|.nilfunc,_|.nilifc,_|.iptr _,_|.islice ..,_|.imap ..,_|.iset _,_=>rfl
theorem a6m(m:Nat)(top:Bool)(d:AV->Option AV):∀(l:List AV),a0d l=[]->a5r m top d l=some l
 | [],_=>rfl
 |v::vs,h=>by simp only[a0d,f8e]at h;simp only[a5r,a0i m top d v h.1,a6m m top d vs h.2]
end
def FlatR(aa:List (List AV)):Prop:=∀r∈aa,a0d r=[]
theorem FlatR.nil:FlatR []:=λr h=>by simp at h
theorem FlatR.cons{r:List AV}{aa:List (List AV)}(h:a0d r=[])(hs:FlatR aa):FlatR (r::aa):=by
 intro x hx;simp only[f4h]at hx;rcases hx with rfl|hx
 ·exact h
 ·exact hs x hx
theorem FlatR.append{a b:List (List AV)}(h:FlatR a)(k:FlatR b):FlatR (a++b):=by intro x hx;simp only[f4s]at hx;exact hx.elim (h x) (k x)
theorem FlatR.map{α:Type}{f:α->List AV}{l:List α}(h:∀x,a0d (f x)=[]):FlatR (l.map f):=by intro x hx;simp only[f6q]at hx;obtain⟨y,_,rfl⟩:=hx;exact h y
theorem FlatR.replicate{n:Nat}{r:List AV}(h:a0d r=[]):FlatR (List.replicate n r):=by intro x hx;rw[(List.mem_replicate.1 hx).2];exact h
theorem a06{aa:List (List AV)}(h:FlatR aa):aa.flatMap a0d=[]:=by rw[List.flatMap_eq_nil_iff];exact h
theorem a05(π:Nat->Option Nat){aa:List (List AV)}(h:FlatR aa):aa.map (λr=>r.map (ren π))=aa:=by
 conv=>rhs;rw[<-List.map_id aa]
 exact f4y λr hr=>a31 π (h r hr)
theorem a0z(m:Nat)(d:AV->Option AV):∀{aa:List (List AV)},FlatR aa->a9t m d aa=some aa
 | [],_=>rfl
 |r::rs,h=>by simp only[a9t,a6m m false d r (h r (by simp)),a0z m d (aa:=rs) (λx hx=>h x (by simp[hx]))]
/-! ### slices that are immutable, nil or not -/
def sl(c:Option (Option Nat))(aa:List (List AV)):AV:=match c,aa with
 |none,[]=>.nilslice
 |none,r::rs=>.islice (r::rs) none
 |some c,aa=>.islice aa c
@[go_sem] theorem a5s(c:Option Nat)(aa:List (List AV)):sl (some c) aa = .islice aa c:=by cases aa<;>rfl
@[go_sem] theorem e0i:sl none [] = .nilslice:=by rfl
@[go_sem] theorem a8m(r:List AV)(rs:List (List AV)):sl none (r::rs) = .islice (r::rs) none:=by rfl
@[go_sem] theorem a16(c:Option (Option Nat))(aa:List (List AV)):refs (sl c aa)=[]:=by cases c<;>cases aa<;>rfl
@[go_sem] theorem b49(π:Nat->Option Nat)(c:Option (Option Nat))(aa:List (List AV)):ren π (sl c aa)=sl c aa:=a0b π _ (a16 c aa)
@[go_sem] theorem e58(c:Option (Option Nat))(aa:List (List AV)):a0l (sl c aa)=[]:=by cases c<;>cases aa<;>rfl
@[go_sem] theorem e9o(c:Option (Option Nat))(aa:List (List AV)):(sl c aa).cells=[sl c aa]:=by cases c<;>cases aa<;>rfl
@[go_sem] theorem e0b(c:Option (Option Nat))(aa:List (List AV)):(sl c aa).storable=true:=by cases c<;>cases aa<;>rfl
@[go_sem] theorem f1u(c:Option (Option Nat))(aa:List (List AV)):(sl c aa).isJunk=false:=by cases c<;>cases aa<;>rfl
section
variable {E:Env}{h:FHeap}{t e:TypeId}{c:Option (Option Nat)}{aa:List (List AV)}{k:IntKind}
@[go_sem] theorem f3q(hs:(slT E t).isSome=true):c07 E h t (sl c aa)=some (.int .i64 aa.length):=by obtain⟨e,he⟩:=f1j.1 hs;have ht:=a4r.1 he;cases c<;>cases aa<;>simp[sl,c07,ht]
@[go_sem] theorem f1z{i:Int}:a15 E h t (sl c aa) (.int k i)=match slT E t with|some e=>b6f E (some e) (rowAt aa i)|none=>a15 E h t (sl c aa) (.int k i):=by
 cases c with
 |some c=>rw[a5s];exact b58
 |none=>cases aa with
  |nil=>
   cases hs:slT E t with
   |none=>rfl
   |some e=>
    have hu:=a4r.1 hs;simp only[sl,a15,hu,b6f];cases h2:rowAt [] i with
    |none=>simp
    |some r=>unfold rowAt at h2;split at h2<;>simp at h2
  |cons a l=>exact b58
end
/-! ### calls -/
@[go_sem] theorem f3j(a:AV):a3t 0 [a]=[(0,a)]:=by rfl
@[go_sem] theorem f3i(a b:AV):a3t 0 [a,b]=[(0,a),(1,b)]:=by rfl
@[go_sem] theorem f3h(a b c:AV):a3t 0 [a,b,c]=[(0,a),(1,b),(2,c)]:=by rfl
@[go_sem] theorem f3g(a b c d:AV):a3t 0 [a,b,c,d]=[(0,a),(1,b),(2,c),(3,d)]:=by rfl
@[go_sem] theorem f3f(a b c d e:AV):a3t 0 [a,b,c,d,e]=[(0,a),(1,b),(2,c),(3,d),(4,e)]:=by rfl
@[go_sem] theorem f3e(a b c d e f:AV):a3t 0 [a,b,c,d,e,f]=[(0,a),(1,b),(2,c),(3,d),(4,e),(5,f)]:=by rfl
theorem a7p(n:Nat)(H1:a03):∀(b:Nat) (H:a03),a1h [] n H1 b H=H
 |_,[]=>rfl
 |b,o::r=>by simp only[a1h,List.idxOf?_nil,a7p n H1 (b+1) r]
theorem c2o{run:List AV->a03->Option (AV×a03)}{args:List AV}{H:a03}{v:AV}(ha:a0d args=[])(h:run args []=some (v,[]))(hv:refs v=[]):a2v run args H=some (v,H,[]):=by
 unfold a2v;have hr:a24 H a3o (a0d args) []=[]:=by rw[ha];rfl
 simp only[hr,a54,List.all_nil,f7h,f2v,a31 _ ha,a4q,f1g,h,a0b _ v hv,a7p,List.drop_nil,f1b,f1h]
theorem a0v{E:Env}{ah:Bool}{call:CallF}{g:FuncId}{fs cs ar args:List AV}{H:a03}{v:AV}(hx:E.ext g=false)(hf:(E.fn g).isSome=true)(he:fs++ar++cs=args)(ha:a0d args=[])(h:call g args []=some (v,[]))(hv:refs v=[]) :
 a20 E ah call (.func (.func g) fs cs) ar H=some (v,H,[]):=by
 simp only[a20,hx,hf,he,f2v,f4i,c2o ha h hv];cases ah
 ·rfl
 ·simp only[f8f];rw[show Nat.ble H.length H.length=true by rw[f7k];exact f2q _];rfl
@[go_sem] theorem b8z(k:IntKind)(n:Int):refs (.int k n)=[]:=by rfl
@[go_sem] theorem e5w(b:Bool):refs (.bool b)=[]:=by rfl
@[go_sem] theorem e8s(s:List UInt8):refs (.str s)=[]:=by rfl
@[go_sem] theorem b4b(r:List (List AV))(c:Option Nat):refs (.islice r c)=[]:=by rfl
@[go_sem] theorem c15(r:List AV):refs (.iptr r)=[]:=by rfl
@[go_sem] theorem d62:refs .nilslice=[]:=by rfl
@[go_sem] theorem a0n(l:List AV):refs (.agg l)=a0d l:=by rfl
@[go_sem] theorem a58(l:List AV):refs (.tuple l)=a0d l:=by rfl
@[go_sem] theorem e5v(f:Fn)(a b:List AV):refs (.func f a b)=a0d a++a0d b:=by rfl
@[go_sem] theorem d61(b i o:Nat):refs (.ptr b i o)=[b]:=by rfl
@[go_sem] theorem c7r(b i o:Nat)(c:Option Nat):refs (.slice b i o c)=[b]:=by rfl
@[go_sem] theorem e8t(b:Nat):refs (.map b)=[b]:=by rfl
@[go_sem] theorem a0t:a0d []=[]:=by rfl
@[go_sem] theorem a04(v:AV)(l:List AV):a0d (v::l)=refs v++a0d l:=by rfl
/-! ### what a loop's head keeps -/
/-! ### globals -/
def gV:Option (List AV)->AV|some cs=>.iptr cs|none=>.junk
@[go_sem] theorem e8u{E:Env}{F:Frm}(g:Nat):opv E F (.global g)=gV (E.G g):=by simp only[opv,gV];cases E.G g<;>rfl
@[go_sem] theorem f2b(cs:List AV):gV (some cs) = .iptr cs:=by rfl
end Go.Ax
/- AxBits: words of 64 bits; sums that fit. -/
namespace Go.Ax
def u64(x:BitVec 64):AV:=.int .u64 (x.toNat:Int)
section
variable {E:Env}{t:TypeId}{c:Bool}{x y:BitVec 64}{k:IntKind}
def c9o(E:Env)(t:TypeId):Option IntKind:=match E.und t with|some (.int k)=>some k|_=>none
theorem c5w{k:IntKind}:c9o E t=some k->E.und t=some (.int k):=by
 unfold c9o;intro h;split at h
 ·rename_i cS;cases h;exact cS
 ·cases h
def cvI(k:IntKind)(n:Int):AV:=.int k (k.wrap n)
@[go_sem] theorem f3l(n:Int):cvI .i64 n = .int .i64 (IntKind.i64.wrap n):=by rfl
@[go_sem] theorem f7v(n:Int):cvI .u8 n = .int .u8 (IntKind.u8.wrap n):=by rfl
@[go_sem] theorem e9n{h:FHeap}{s d:TypeId}{k:IntKind}{n:Int}(hs:isT E s=true):a7i E h s d (.int k n)=match c9o E d with|some k'=>some (cvI k' n)|none=>a7i E h s d (.int k n):=by
 cases hd:c9o E d with
 |none=>rfl
 |some k'=>have hu:=c5w hd;obtain⟨ds,pR⟩:=f1j.1 (show(E.und s).isSome=true from hs);simp only[a7i,hu,pR];cases ds<;>simp[d8i,hu,pR,cvI]
theorem w64{n:Int}(h1:-9223372036854775808<=n)(h2:n<=9223372036854775807):IntKind.i64.wrap n=n:=IntWalk.i64_in n ⟨h1,h2⟩
end
end Go.Ax
/- AxWp: what a statement comes to, by a condition on the end. -/
namespace Go.Ax
@[go_sem] theorem e6k(F:Frm):a2c [] F=[]:=by rfl
@[go_sem] theorem e4b(s:Nat)(r:List Nat)(F:Frm):a2c (s::r) F=(s,a35 F s)::a2c r F:=by rfl
@[go_sem] theorem a5b{v:AV}{H:a03}(h:refs v=[]):a22 false 0 v H=some (v,[]):=by simp only[a22,a0i _ _ _ _ h,f2j,f1g,f4i]
@[go_sem] theorem e64(v:AV):a6l [v]=v:=by rfl
@[go_sem] theorem e63(v w:AV)(l:List AV):a6l (v::w::l) = .tuple (v::w::l):=by rfl
@[go_sem] theorem e9r{E:Env}{F:Frm}{H:a03}:a1c E F H []=some []:=by rfl
@[go_sem] theorem e9q{E:Env}{F:Frm}{H:a03}(t:Nat)(r:List ResultVar):a1c E F H (.tmp t::r)=a0j (a1c E F H r) λvs=>some (a35 F t::vs):=by simp only[a1c];cases a1c E F H r<;>rfl
@[go_sem] theorem e7v{E:Env}{F:Frm}{H:a03}(a t:Nat)(r:List ResultVar):a1c E F H (.cell a t::r)=a0j (a6q E (a02 H) t (a35 F a)) λv=>a0j (a1c E F H r) λvs=>some (v::vs):=by simp only[a1c];cases a6q E (a02 H) t (a35 F a)<;>cases a1c E F H r<;>rfl
abbrev b02:=AExit->Frm->a03->Prop
def bk(id:Nat)(Q:b02):b02:=λe F H=>match e with|.exit i=>if i=id then Q .normal F H else Q (.exit i) F H|e=>Q e F H
def WpR:Code->Cx->Frm->a03->b02->Prop
 |.skip,_,F,H,Q=>Q .normal F H
 |.label _,_,F,H,Q=>Q .normal F H
 |.exit id,_,F,H,Q=>Q (.exit id) F H
 |.ret,_,F,H,Q=>Q .ret F H
 |.seq a b,x,F,H,Q=>WpR a x F H λe F H=>match e with|.normal=>WpR b x F H Q|e=>Q e F H
 |.block id b,x,F,H,Q=>WpR b { x with cur:=id } F H (bk id Q)
 |.scope b,x,F,H,Q=>WpR b x F H Q
 |c,x,F,H,Q=>∃e F' H',Ev x c F H (e,F',H')∧Q e F' H'
def Wp(x:Cx)(c:Code)(F:Frm)(H:a03)(Q:b02):Prop:=WpR c x F H Q
def sq(x:Cx)(b:Code)(Q:b02):b02:=λe F H=>match e with|.normal=>Wp x b F H Q|e=>Q e F H
def cx(E:Env)(M:List Fact)(m N:Nat)(g:FuncId)(cur:Nat):Cx:=⟨E,M,m,N,E.keep g,cur⟩
def lp{σ:Type}(m:Nat)(keep:List Nat)(Fs:σ->Frm)(Hs:σ->a03)(b9:σ->Nat)(Inv:σ->Prop)(n:Nat)(Q:b02):b02:=λe F H=>match e with|.normal=>∃s,gcD m keep F H=some (Fs s,Hs s)∧b9 s<n∧Inv s|e=>Q e F H
def fq(E:Env)(g:FuncId)(m:Nat)(results:List ResultVar)(r:AV×a03):b02:=λe F H=>match e with|.exit _=>False|_=>∃vs,a1c E F H results=some vs∧a22 (E.thaw g) m (a6l vs) H=some r
def lpJ(m:Nat)(keep:List Nat)(J:Nat->Frm->a03->Prop)(n:Nat)(Q:b02):b02:=λe F H=>match e with|.normal=>∃F1 H1 n',gcD m keep F H=some (F1,H1)∧n'<n∧J n' F1 H1|e=>Q e F H
@[irreducible] def d9e:AV->Option Bool|.bool b=>some b|_=>none
@[go_sem] theorem f5s:d9e (.bool true)=some true:=by unfold d9e;rfl
@[go_sem] theorem f5t:d9e (.bool false)=some false:=by unfold d9e;rfl
theorem e1s{v:AV}{t:Bool}(h:d9e v=some t):v = .bool t:=by
 unfold d9e at h;split at h
 ·cases h;rfl
 ·cases h
def hs(E:Env)(M:List Fact)(N:Nat):Code->Frm->a03->Frm->a03->List LogE->Bool->Prop
 |.region id ap ah,F,H,F1,H1,log,t=>(b0o E ah N (sem E M) ap.toList ap.toList [] F H,true)=(some (F1,H1,log),t)
 |.cond c a b,F,H,F1,H1,log,t=>(d9e (opv E F c),F,H,[])=(some t,F1,H1,log)
 |_,_,_,_,_,_,_=>False
def sd:Code->List LogE->Bool
 |.region id ap ah,log=>!ah||logOk ap.toList log.length log
 |_,_=>true
def ct(x:Cx):Code->Bool->Frm->a03->b02->Prop
 |.region id ap ah,t,F,H,Q=>Q .normal F H
 |.cond c a b,t,F,H,Q=>Wp x (bif t then a else b) F H Q
 |_,_,_,_,_=>False
@[go_sem] theorem g4f(E:Env)(M:List Fact)(N:Nat)(id ap ah F H F1 H1 log t):hs E M N (.region id ap ah) F H F1 H1 log t=((b0o E ah N (sem E M) ap.toList ap.toList [] F H,true)=(some (F1,H1,log),t)):=by rfl
@[go_sem] theorem g4g(E:Env)(M:List Fact)(N:Nat)(c a b F H F1 H1 log t):hs E M N (.cond c a b) F H F1 H1 log t=((d9e (opv E F c),F,H,[])=(some t,F1,H1,log)):=by rfl
theorem wx:(∀x id ap ah t F H Q,ct x (.region id ap ah) t F H Q=Q .normal F H)∧(∀x c a b F H Q,ct x (.cond c a b) true F H Q=Wp x a F H Q)∧(∀x c a b F H Q,ct x (.cond c a b) false F H Q=Wp x b F H Q):=⟨λ_ _ _ _ _ _ _ _=>rfl,λ_ _ _ _ _ _ _=>rfl,λ_ _ _ _ _ _ _=>rfl⟩
theorem ww:(∀x F H Q,Wp x .skip F H Q=Q .normal F H)∧(∀x F H Q l,Wp x (.label l) F H Q=Q .normal F H)∧(∀x F H Q i,Wp x (.exit i) F H Q=Q (.exit i) F H)∧(∀x F H Q,Wp x .ret F H Q=Q .ret F H)∧
 (∀x a b F H Q,Wp x (.seq a b) F H Q=Wp x a F H (sq x b Q))∧(∀E M m N g cur i b F H Q,Wp (cx E M m N g cur) (.block i b) F H Q=Wp (cx E M m N g i) b F H (bk i Q))∧(∀x b F H Q,Wp x (.scope b) F H Q=Wp x b F H Q)∧
 (∀x b F H Q,sq x b Q .normal F H=Wp x b F H Q)∧(∀x b F H Q i,sq x b Q (.exit i) F H=Q (.exit i) F H)∧(∀x b F H Q,sq x b Q .ret F H=Q .ret F H)∧
 (∀i F H Q,bk i Q .normal F H=Q .normal F H)∧(∀i F H Q,bk i Q .ret F H=Q .ret F H)∧(∀i F H Q,bk i Q (.exit i) F H=Q .normal F H)∧(∀i j F H Q,(j=i)=False->bk i Q (.exit j) F H=Q (.exit j) F H)∧
 (∀m keep J n Q i F H,lpJ m keep J n Q (.exit i) F H=Q (.exit i) F H)∧(∀m keep J n Q F H,lpJ m keep J n Q .ret F H=Q .ret F H)∧
 (∀(σ:Type) m keep (Fs:σ->Frm) Hs b9 Inv n Q i F H,lp m keep Fs Hs b9 Inv n Q (.exit i) F H=Q (.exit i) F H)∧(∀(σ:Type) m keep (Fs:σ->Frm) Hs b9 Inv n Q F H,lp m keep Fs Hs b9 Inv n Q .ret F H=Q .ret F H)∧
 (∀a b:Code,cond true a b=a)∧(∀a b:Code,cond false a b=b)∧
 (∀x id ap ah t F H Q,ct x (.region id ap ah) t F H Q=Q .normal F H)∧(∀x c a b F H Q,ct x (.cond c a b) true F H Q=Wp x a F H Q)∧(∀x c a b F H Q,ct x (.cond c a b) false F H Q=Wp x b F H Q):=
 ⟨λ_ _ _ _=>rfl,λ_ _ _ _ _=>rfl,λ_ _ _ _ _=>rfl,λ_ _ _ _=>rfl,λ_ _ _ _ _ _=>rfl,λ_ _ _ _ _ _ _ _ _ _ _=>rfl,λ_ _ _ _ _=>rfl,λ_ _ _ _ _=>rfl,λ_ _ _ _ _ _=>rfl,λ_ _ _ _ _=>rfl,
  λ_ _ _ _=>rfl,λ_ _ _ _=>rfl,λi F H Q=>by simp only[bk,f2w],λi j F H Q h=>by simp only[bk,h,f9d],λ_ _ _ _ _ _ _ _=>rfl,λ_ _ _ _ _ _ _=>rfl,λ_ _ _ _ _ _ _ _ _ _ _ _=>rfl,λ_ _ _ _ _ _ _ _ _ _ _=>rfl,λ_ _=>rfl,λ_ _=>rfl,wx⟩
theorem c0n:∀(c:Code) {x:Cx} {F:Frm} {H:a03} {Q:b02},Wp x c F H Q->∃e F' H',Ev x c F H (e,F',H')∧Q e F' H':=by
 intro c
 induction c with
 |skip=>intro x F H Q h;exact⟨_,_,_,Ev.skip,h⟩
 |label l=>intro x F H Q h;exact⟨_,_,_,Ev.label,h⟩
 |exit i=>intro x F H Q h;exact⟨_,_,_,Ev.leave,h⟩
 |ret=>intro x F H Q h;exact⟨_,_,_,Ev.ret,h⟩
 |seq a b iha ihb=>
  intro x F H Q h;obtain⟨e,F',H',h1,h2⟩:=iha h;cases e with
  |normal=>obtain⟨e2,F2,H2,h3,h4⟩:=ihb h2;exact⟨e2,F2,H2,Ev.seq h1 h3,h4⟩
  |exit id=>exact⟨_,_,_,Ev.seq_exit h1,h2⟩
  |ret=>exact⟨_,_,_,Ev.seq_ret h1,h2⟩
 |block id b ih=>
  intro x F H Q h;obtain⟨e,F',H',h1,h2⟩:=ih h;cases e with
  |normal=>exact⟨_,_,_,Ev.block h1,h2⟩
  |exit i=>
   by_cases hi:i=id
   ·subst hi;simp only[bk,f2w]at h2;exact⟨_,_,_,Ev.block_exit h1,h2⟩
   ·simp only[bk,f2m hi]at h2;exact⟨_,_,_,Ev.block_on h1 (by simpa using hi),h2⟩
  |ret=>exact⟨_,_,_,Ev.block_ret h1,h2⟩
 |scope b ih=>intro x F H Q h;obtain⟨e,F',H',h1,h2⟩:=ih h;exact⟨e,F',H',Ev.scope h1,h2⟩
 |_=>intro x F H Q h;exact h
theorem b3s:∀{c:Code} {x:Cx} {F:Frm} {H:a03} {Q Q':b02},Wp x c F H Q->(∀e F H,Q e F H->Q' e F H)->Wp x c F H Q':=by
 intro c
 induction c with
 |skip=>intro x F H Q Q' h hq;exact hq _ _ _ h
 |label l=>intro x F H Q Q' h hq;exact hq _ _ _ h
 |exit i=>intro x F H Q Q' h hq;exact hq _ _ _ h
 |ret=>intro x F H Q Q' h hq;exact hq _ _ _ h
 |seq a b iha ihb=>
  intro x F H Q Q' h hq;refine iha (Q:=sq x b Q) (Q':=sq x b Q') h ?_;intro e F H h;cases e with
  |normal=>exact ihb (x:=x) h hq
  |exit id=>exact hq _ _ _ h
  |ret=>exact hq _ _ _ h
 |block id b ih=>
  intro x F H Q Q' h hq;refine ih (Q:=bk id Q) (Q':=bk id Q') h ?_;intro e F H h;cases e with
  |normal=>exact hq _ _ _ h
  |exit i=>
   simp only[bk]at h⊢;split
   ·rename_i hi;rw[f2w hi]at h;exact hq _ _ _ h
   ·rename_i hi;rw[f2m hi]at h;exact hq _ _ _ h
  |ret=>exact hq _ _ _ h
 |scope b ih=>intro x F H Q Q' h hq;exact ih (x:=x) h hq
 |_=>intro x F H Q Q' h hq;obtain⟨e,F',H',h1,h2⟩:=h;exact⟨e,F',H',h1,hq _ _ _ h2⟩
section
variable {x:Cx}{F F1:Frm}{H H1:a03}{Q:b02}
theorem xs{E:Env}{M:List Fact}{m N:Nat}{g:FuncId}{cur:Nat}{id ap ah}{log:List LogE}(h:b0o E ah N (sem E M) ap.toList ap.toList [] F H=some (F1,H1,log))(hl:(!ah||logOk ap.toList log.length log)=true)(hq:Q .normal F1 H1):Wp (cx E M m N g cur) (.region id ap ah) F H Q:=⟨_,_,_,Ev.region h hl,hq⟩
theorem xI{E:Env}{M:List Fact}{m N:Nat}{g:FuncId}{cur:Nat}{c a b t}(hc:opv E F c = .bool t)(h:Wp (cx E M m N g cur) (bif t then a else b) F H Q):Wp (cx E M m N g cur) (.cond c a b) F H Q:=by
 cases t
 ·obtain⟨e,F',H',h1,h2⟩:=c0n _ h;exact⟨e,F',H',Ev.cond_f hc h1,h2⟩
 ·obtain⟨e,F',H',h1,h2⟩:=c0n _ h;exact⟨e,F',H',Ev.cond_t hc h1,h2⟩
theorem d8m{E:Env}{M:List Fact}{m N:Nat}{g:FuncId}{cur:Nat}{keep:List Nat}{b:Code}(hk:E.keep g cur=keep)(J:Nat->Frm->a03->Prop)(n0:Nat)(h0:∃F1 H1,gcD m keep F H=some (F1,H1)∧J n0 F1 H1)
 (h:∀n F1 H1,J n F1 H1->Wp (cx E M m N g cur) b F1 H1 (lpJ m keep J n Q)):∃r:AExit×Frm×a03,Q r.1 r.2.1 r.2.2∧EvL (cx E M m N g cur) b F H r:=by
 subst hk;have key:∀n F H F1 H1,gcD m (E.keep g cur) F H=some (F1,H1)->J n F1 H1->∃r:AExit×Frm×a03,Q r.1 r.2.1 r.2.2∧EvL (cx E M m N g cur) b F H r:=by
  intro n
  induction n using Nat.strongRecOn with
  |ind n ih=>
   intro F H F1 H1 hg hJ;obtain⟨e,F',H',h1,h2⟩:=c0n _ (h n F1 H1 hJ);cases e with
   |normal=>obtain⟨F2,H2,n',g1,g2,g3⟩:=h2;obtain⟨r,hr,hl⟩:=ih n' g2 F' H' F2 H2 g1 g3;exact⟨r,hr,EvL.again (x:=cx E M m N g cur) hg h1 hl⟩
   |exit id=>exact⟨(_,_,_),h2,EvL.leave (x:=cx E M m N g cur) hg h1 (λh=>by cases h)⟩
   |ret=>exact⟨(_,_,_),h2,EvL.leave (x:=cx E M m N g cur) hg h1 (λh=>by cases h)⟩
 obtain⟨F1,H1,hg,hJ⟩:=h0;exact key n0 F H F1 H1 hg hJ
theorem a3i{E:Env}{M:List Fact}{m N:Nat}{g:FuncId}{cur:Nat}{keep:List Nat}{b:Code}(hk:E.keep g cur=keep)(J:Nat->Frm->a03->Prop)(n0:Nat)(h0:∃F1 H1,gcD m keep F H=some (F1,H1)∧J n0 F1 H1)
 (h:∀n F1 H1,J n F1 H1->Wp (cx E M m N g cur) b F1 H1 (lpJ m keep J n Q))(hz:d4w keep=false:=by rfl)(hx:a84 b=none:=by rfl):Wp (cx E M m N g cur) (.loop b) F H Q:=by
 obtain⟨⟨e,F',H'⟩,hr,hl⟩:=d8m hk J n0 h0 h;exact⟨e,F',H',Ev.loop hx (by rw[<-hk]at hz;exact hz) hl,hr⟩
def fz(m:Nat)(Q:b02):b02:=λe F H=>Q e (b9p m H F) (b0q m H)
theorem c9t{E:Env}{M:List Fact}{m N:Nat}{g:FuncId}{cur:Nat}{keep:List Nat}{b:Code}(hk:E.keep g cur=keep)(hz:d4w keep=true)(j:Nat)(hj:c9p keep=j)(J:Nat->Frm->a03->Prop)(n0:Nat)(h0:∃F1 H1,gcD m keep F H=some (F1,H1)∧J n0 F1 H1)
 (h:∀n F1 H1,J n F1 H1->Wp (cx E M m N g cur) b F1 H1 (lpJ m keep J n (fz (m+j) Q)))(hx:a84 b=none:=by rfl):Wp (cx E M m N g cur) (.loop b) F H Q:=by
 obtain⟨⟨e,F',H'⟩,hr,hl⟩:=d8m hk J n0 h0 h;subst hk;subst hj;exact⟨e,_,_,Ev.loopZ hx (x:=cx E M m N g cur) hz hl,hr⟩
theorem a0m{E:Env}{M:List Fact}{m N:Nat}{g:FuncId}{cur:Nat}{keep:List Nat}{b:Code}(hk:E.keep g cur=keep){σ:Type}(Fs:σ->Frm)(Hs:σ->a03)(b9:σ->Nat)(Inv:σ->Prop)(s0:σ)(h0:gcD m keep F H=some (Fs s0,Hs s0))(hi:Inv s0)
 (h:∀s,Inv s->Wp (cx E M m N g cur) b (Fs s) (Hs s) (lp m keep Fs Hs b9 Inv (b9 s) Q))(hz:d4w keep=false:=by rfl)(hx:a84 b=none:=by rfl):Wp (cx E M m N g cur) (.loop b) F H Q:=by
 refine a3i hk (λn F1 H1=>∃s,F1=Fs s∧H1=Hs s∧n=b9 s∧Inv s) (b9 s0) ⟨_,_,h0,s0,rfl,rfl,rfl,hi⟩ ?_ hz hx
 rintro n F1 H1 ⟨s,rfl,rfl,rfl,hs⟩
 refine b3s (h s hs) ?_;intro e F' H' h2;cases e with
 |normal=>obtain⟨s',g1,g2,g3⟩:=h2;exact⟨_,_,_,g1,g2,s',rfl,rfl,rfl,g3⟩
 |exit id=>exact h2
 |ret=>exact h2
theorem a1g{E:Env}{M:List Fact}{m N:Nat}{g:FuncId}{cur:Nat}{keep:List Nat}(hk:E.keep g cur=keep){b:Code}{σ:Type}(Fs:σ->Frm)(Hs:σ->a03)(b9:σ->Nat)(Inv:σ->Prop)(s0:σ)(h0:gcD m keep F H=some (Fs s0,Hs s0))(hi:Inv s0)
 (_:∀s,Inv s->gcD m keep (Fs s) (Hs s)=some (Fs s,Hs s))(h:∀s,Inv s->Wp (cx E M m N g cur) b (Fs s) (Hs s) (lp m keep Fs Hs b9 Inv (b9 s) Q))(hz:d4w keep=false:=by rfl)(hx:a84 b=none:=by rfl):Wp (cx E M m N g cur) (.loop b) F H Q:=a0m hk Fs Hs b9 Inv s0 h0 hi h hz hx
theorem a0y{m:Nat}{keep:List Nat}{J:Nat->Frm->a03->Prop}{n:Nat}(n':Nat)(hn:n'<n)(h:∃F1 H1,gcD m keep F H=some (F1,H1)∧J n' F1 H1):lpJ m keep J n Q .normal F H:=by obtain⟨F1,H1,h1,h2⟩:=h;exact⟨F1,H1,n',h1,hn,h2⟩
theorem a1m{σ:Type}{m:Nat}{keep:List Nat}{Fs:σ->Frm}{Hs:σ->a03}{b9:σ->Nat}{Inv:σ->Prop}{n:Nat}(s:σ)(h1:gcD m keep F H=some (Fs s,Hs s))(h2:b9 s<n)(h3:Inv s):lp m keep Fs Hs b9 Inv n Q .normal F H:=⟨s,h1,h2,h3⟩
theorem a6p{E:Env}{g:FuncId}{m:Nat}{results:List ResultVar}{r:AV×a03}{vs:List AV}(h1:a1c E F H results=some vs)(h2:a22 (E.thaw g) m (a6l vs) H=some r):fq E g m results r .ret F H:=⟨vs,h1,h2⟩
end
theorem e5k{E:Env}{M:List Fact}{g:FuncId}{args:List AV}{H:a03}{code:Code}{N:Nat}{results:List ResultVar}{r:AV×a03}
 (bE:E.fn g=some ⟨code,N,results⟩)(cR:∀y∈M,y.g≠g)(hN:Nat.ble args.length N=true){m:Nat}(hm:H.length=m)(h:Wp (cx E M m N g 0) code (a3t 0 args) H (fq E g m results r))(hp:E.prim g args=none:=by rfl)(hz:E.zf g=false:=by rfl)(hw:E.raw g=false:=by rfl):sem E M g args H=some r:=by
 subst hm;obtain⟨e,F',H',h1,h2⟩:=c0n _ h;obtain⟨v,H2⟩:=r;cases e with
 |normal=>obtain⟨vs,h3,h4⟩:=h2;exact c55 bE cR hN h1 (λ_ h=>by cases h) h3 h4 hp hz hw
 |ret=>obtain⟨vs,h3,h4⟩:=h2;exact c55 bE cR hN h1 (λ_ h=>by cases h) h3 h4 hp hz hw
 |exit id=>exact h2.elim
theorem xa{E:Env}{M:List Fact}{m N:Nat}{g:FuncId}{cur:Nat}{c:Code}{F F1:Frm}{H H1:a03}{log:List LogE}{t:Bool}{Q:b02}(h:hs E M N c F H F1 H1 log t)(hl:sd c log=true)(k:ct (cx E M m N g cur) c t F1 H1 Q):Wp (cx E M m N g cur) c F H Q:=by
 cases c with
 |region id ap ah=>exact xs (congrArg Prod.fst h) hl k
 |cond c a b=>have h1:opv E F c = .bool t:=e1s (congrArg Prod.fst h);have h2:(F,H,([]:List LogE))=(F1,H1,log):=congrArg Prod.snd h;cases h2;exact xI h1 k
 |_=>exact k.elim
theorem gS:(∀a b:Code,(some a).getD b=a)∧(∀l:List ResultVar,(List.toArray l).toList=l):=⟨λ_ _=>rfl,λ_=>rfl⟩
def AExit.fin:AExit->Bool
 |.exit _=>false
 |_=>true
@[go_sem] theorem g11:AExit.ret.fin=true:=by rfl
theorem fqb{E:Env}{g:FuncId}{m:Nat}{results:List ResultVar}{r:AV×a03}{e:AExit}{F:Frm}{H:a03}(h:(bif e.fin then a0j (a1c E F H results) λvs=>a22 (E.thaw g) m (a6l vs) H else none)=some r):fq E g m results r e F H:=by
 cases ha:a1c E F H results with
 |none=>rw[ha]at h;cases e<;>cases h
 |some vs=>
  rw[ha]at h;cases e with
  |exit i=>cases h
  |_=>exact⟨vs,ha,h⟩
theorem sv{E:Env}{M:List Fact}{g:FuncId}{args:List AV}{H:a03}{r:AV×a03}(f:Func)(h:Wp (cx E M H.length f.ntmps g 0) (f.body.getD .skip) (a3t 0 args) H (fq E g H.length f.results.toList r))(bE:E.fn g=some ⟨f.body.getD .skip,f.ntmps,f.results.toList⟩:=by kernel_rfl)
 (cR:(M.all λy=>!Nat.beq y.g g)=true:=by rfl)(hN:Nat.ble args.length f.ntmps=true:=by rfl)(hp:E.prim g args=none:=by rfl)(hz:E.zf g=false:=by rfl)(hw:E.raw g=false:=by rfl):sem E M g args H=some r:=e5k bE (λy hy e=>by
 have:=f4l.1 cR y hy;rw[e]at this;simp at this) hN rfl h hp hz hw
end Go.Ax
/- AxTyp: e05 abstract values, taken apart. -/
namespace Go.Ax
section
variable {E:Env}{n:Nat}{t e:TypeId}{aQ:List AV}
theorem a8l{α:Type}{f:α->List AV}{P:α->Prop}(hs:slT E t=some e)(he:∀r,Typ E n e r->∃x,P x∧r=f x)(h:Typ E (n+1) t aQ) :
 ∃(c:Option (Option Nat)) (l:List α),aQ=[sl c (l.map f)]∧l.length<=maxLen∧∀x∈l,P x:=by
 simp only[Typ,a4r.1 hs]at h;rcases h with rfl|⟨aa,cap,rfl,h1,h2,h3⟩
 ·exact⟨none,[],rfl,by simp,by simp⟩
 ·have key:∀aa:List (List AV),(∀r∈aa,r.length=E.sz e∧Typ E n e r)->∃l:List α,aa=l.map f∧∀x∈l,P x:=by
   intro aa
   induction aa with
   |nil=>intro _;exact⟨[],rfl,by simp⟩
   |cons r rs ih=>
    intro hh;obtain⟨x,hx,rfl⟩:=he r (hh r (by simp)).2;obtain⟨l,rfl,hl⟩:=ih (λr hr=>hh r (by simp[hr]));refine⟨x::l,rfl,?_⟩;intro y hy;simp only[f4h]at hy;rcases hy with rfl|hy
    ·exact hx
    ·exact hl y hy
  obtain⟨l,rfl,hl⟩:=key aa h3;exact⟨some (some cap),l,by rw[a5s],by simpa using g0n h1 h2,hl⟩
theorem c9z{k:IntKind}(hk:c9o E t=some k)(h:Typ E (n+1) t aQ):∃i,aQ=[.int k i]∧(Lit.int k i).wf=true:=by simpa only[Typ,c5w hk]using h
theorem c37(hk:c9o E t=some .i64)(h:Typ E (n+1) t aQ):∃i:Int,aQ=[.int .i64 i]∧ -9223372036854775808<=i∧i<9223372036854775808:=by
 obtain⟨i,h1,h2⟩:=c9z hk h;simp only[Lit.wf,f1d,f2y]at h2;have e1:IntKind.i64.min = -9223372036854775808:=by rfl
 have e2:IntKind.i64.max=9223372036854775807:=by rfl
 rw[e1,e2]at h2;exact⟨i,h1,h2.1,by omega⟩
theorem a5n(hk:c9o E t=some .u8)(h:Typ E (n+1) t aQ):∃i:Nat,aQ=[.int .u8 i]∧i<256:=by
 obtain⟨i,h1,h2⟩:=c9z hk h;simp only[Lit.wf,f1d,f2y]at h2;have e1:IntKind.u8.min=0:=by rfl
 have e2:IntKind.u8.max=255:=by rfl
 rw[e1,e2]at h2;exact⟨i.toNat,by rw[h1,Int.toNat_of_nonneg h2.1],by omega⟩
theorem b36(hb:E.und t=some .bool)(h:Typ E (n+1) t aQ):∃b,aQ=[.bool b]:=by simpa only[Typ,hb]using h
def a8y(E:Env)(t:TypeId):Option (List TypeId):=match E.und t with|some (.struct fs)=>some (fs.toList.map (·.type))|_=>none
def c6z(E:Env)(n:Nat):List TypeId->List AV->Prop
 | [],aQ=>aQ=[]
 |t::ts,aQ=>∃p r,aQ=p++r∧Typ E n t p∧c6z E n ts r
theorem a65{ts:List TypeId}(hf:a8y E t=some ts)(h:Typ E (n+1) t aQ):c6z E n ts aQ:=by
 unfold a8y at hf;split at hf
 case h_2=>cases hf
 rename_i fs hu;cases hf;simp only[Typ,hu]at h;obtain⟨aq,rfl,h1,h2⟩:=h;have key:∀(fs:List Field) (aq:List (List AV)),aq.length=fs.length->(∀(i:Nat) f p,fs[i]?=some f->aq[i]?=some p->p.length=E.sz f.type∧Typ E n f.type p)->c6z E n (fs.map (·.type)) aq.flatten:=by
  intro fs
  induction fs with
  |nil=>intro aq hl _;have:=List.length_eq_zero_iff.1 hl;subst this;rfl
  |cons f fs ih=>
   intro aq hl hh;cases aq with
   |nil=>simp at hl
   |cons p aq=>exact⟨p,aq.flatten,by simp,(hh 0 f p rfl rfl).2,ih aq (by simpa using hl) (λi f p hf hp=>hh (i+1) f p (by simpa using hf) (by simpa using hp))⟩
 exact key fs.toList aq h1 h2
theorem b3w{m:Nat}(hf:c6t E t=some (m,e))(h:Typ E (n+1) t aQ):c6z E n (List.replicate m e) aQ:=by
 unfold c6t at hf;split at hf
 case h_2=>cases hf
 rename_i m' e' hu;cases hf;simp only[Typ,hu]at h;obtain⟨aq,rfl,h1,h2⟩:=h;subst h1;clear hu
 induction aq with
 |nil=>rfl
 |cons p aq ih=>simp only[f1c,f8i];exact⟨p,aq.flatten,by simp,(h2 p (by simp)).2,ih (λq hq=>h2 q (by simp[hq]))⟩
theorem b8n{a:AV}(hg:a6o E t=some true)(h:e50 E n t a):∃aQ,a = .agg aQ∧Typ E n t aQ:=by
 unfold e50 at h;unfold a6o at hg;cases hu:E.und t with
 |none=>rw[hu]at h;exact h.elim
 |some d=>rw[hu]at h hg;simp only[f2k,Option.some.injEq]at hg;simpa[hg]using h
end
end Go.Ax
/- AxHeap: calls on, and loops over, heaps of a few known blocks: what is reached, renamed and put back, ar rewrite rules. -/
namespace Go.Ax
@[go_sem] theorem e43(H:a03)(n:Nat)(aP:List Nat):a24 H n [] aP=aP.reverse:=by cases n<;>rfl
theorem c7u(H:a03)(n:Nat)(b:Nat)(todo aP:List Nat):a24 H (n+1) (b::todo) aP=bif a18 aP b then a24 H n todo aP else a24 H n (a12 (a02 H b)++todo) (b::aP):=by rfl
@[go_sem] theorem e44{n:Nat}(hn:(0<n)=True)(H:a03)(b:Nat)(todo aP:List Nat):a24 H n (b::todo) aP=bif a18 aP b then a24 H (n-1) todo aP else a24 H (n-1) (a12 (a02 H b)++todo) (b::aP):=by
 obtain⟨m,rfl⟩:∃m,n=m+1:=⟨n-1,by have:=f7q hn;omega⟩
 exact c7u H m b todo aP
@[go_sem] theorem d7q(x:Nat):a18 [] x=false:=by rfl
@[go_sem] theorem d4x(a:Nat)(r:List Nat)(x:Nat):a18 (a::r) x=bif decide (a=x)then true else a18 r x:=by simp only[a18,d4v,c6q]
@[go_sem] theorem e48:a54 []=true:=by rfl
@[go_sem] theorem c3x(a:Nat)(r:List Nat):a54 (a::r)=(!(a18 r a)&&a54 r):=by rfl
@[go_sem] theorem e5y(k:Nat)(aa:List (List AV)):a12 (some (.row k aa))=aa.flatMap a0d:=by rfl
@[go_sem] theorem e5z(ks vs:List AV)(bs:List Nat)(c:Nat):a12 (some (.map ks vs bs c))=a0d ks++a0d vs:=by rfl
@[go_sem] theorem f1x(b:Nat):List.idxOf? b []=none:=by rfl
@[go_sem] theorem e96(a:Nat)(l:List Nat)(b:Nat):List.idxOf? b (a::l)=bif decide (a=b)then some 0 else(List.idxOf? b l).map (·+ 1):=by rw[f7e,c6q];cases decide (a=b)<;>rfl
@[go_sem] theorem f1m(σ:List Nat)(b:Nat):a78 σ b=σ.idxOf? b:=by rfl
@[go_sem] theorem e7n(σ:List Nat)(n j:Nat):a1d σ n j=bif decide (j<σ.length)then σ[j]? else some (n+(j-σ.length)):=by simp only[a1d,c9r]
@[go_sem] theorem e3x(H:a03)(π:Nat->Option Nat):a4q H [] π=[]:=by rfl
@[go_sem] theorem e0h(H:a03)(b:Nat)(σ:List Nat)(π:Nat->Option Nat):a4q H (b::σ) π=(a02 H b).map (a0g π)::a4q H σ π:=by rfl
@[go_sem] theorem d98(σ:List Nat)(n:Nat)(H1:a03)(b:Nat):a1h σ n H1 b []=[]:=by rfl
def c5c(σ:List Nat)(n:Nat)(H1:a03)(o:Option AObj):Option Nat->Option AObj
 |some j=>(a02 H1 j).map (a0g (a1d σ n))
 |none=>o
@[go_sem] theorem e14(σ:List Nat)(n:Nat)(H1:a03)(o:Option AObj)(j:Nat):c5c σ n H1 o (some j)=(a02 H1 j).map (a0g (a1d σ n)):=by rfl
@[go_sem] theorem e15(σ:List Nat)(n:Nat)(H1:a03)(o:Option AObj):c5c σ n H1 o none=o:=by rfl
@[go_sem] theorem c1a(σ:List Nat)(n:Nat)(H1:a03)(b:Nat)(o:Option AObj)(r:a03):a1h σ n H1 b (o::r)=c5c σ n H1 o (σ.idxOf? b)::a1h σ n H1 (b+1) r:=by simp only[a1h];cases σ.idxOf? b<;>rfl
@[go_sem] theorem e41(π:Nat->Option Nat)(k:Nat)(aa:List (List AV)):a0g π (.row k aa) = .row k (aa.map λr=>r.map (ren π)):=by rfl
@[go_sem] theorem e42(π:Nat->Option Nat)(ks vs:List AV)(bs:List Nat)(c:Nat):a0g π (.map ks vs bs c) = .map (ks.map (ren π)) (vs.map (ren π)) bs c:=by rfl
/- renaming a value -/
section
variable (π:Nat->Option Nat)
def e5t(f:Nat->AV):Option Nat->AV|some b=>f b|none=>.junk
@[go_sem] theorem e5r(f:Nat->AV)(b:Nat):e5t f (some b)=f b:=by rfl
@[go_sem] theorem e5s(f:Nat->AV):e5t f none = .junk:=by rfl
@[go_sem] theorem f0y(b i o:Nat):ren π (.ptr b i o)=e5t (λb=>.ptr b i o) (π b):=by simp only[ren];cases π b<;>rfl
@[go_sem] theorem e5q(b i o:Nat)(c:Option Nat):ren π (.slice b i o c)=e5t (λb=>.slice b i o c) (π b):=by simp only[ren];cases π b<;>rfl
@[go_sem] theorem f0z(b:Nat):ren π (.map b)=e5t (λb=>.map b) (π b):=by simp only[ren];cases π b<;>rfl
@[go_sem] theorem b8y(k:IntKind)(n:Int):ren π (.int k n) = .int k n:=by rfl
@[go_sem] theorem e8q(b:Bool):ren π (.bool b) = .bool b:=by rfl
@[go_sem] theorem f0x(s:List UInt8):ren π (.str s) = .str s:=by rfl
@[go_sem] theorem e40(r:List (List AV))(c:Option Nat):ren π (.islice r c) = .islice r c:=by rfl
@[go_sem] theorem e8p(r:List AV):ren π (.iptr r) = .iptr r:=by rfl
@[go_sem] theorem a8o:ren π .nilslice = .nilslice:=by rfl
@[go_sem] theorem e8o:ren π .junk = .junk:=by rfl
@[go_sem] theorem c3r(l:List AV):ren π (.agg l) = .agg (l.map (ren π)):=by simp only[ren,a7o]
@[go_sem] theorem c14(l:List AV):ren π (.tuple l) = .tuple (l.map (ren π)):=by simp only[ren,a7o]
@[go_sem] theorem d60(f:Fn)(a b:List AV):ren π (.func f a b) = .func f (a.map (ren π)) (b.map (ren π)):=by simp only[ren,a7o]
@[go_sem] theorem e8r:c0h π []=[]:=by rfl
@[go_sem] theorem d10(s:Nat)(v:AV)(r:Frm):c0h π ((s,v)::r)=(s,ren π v)::c0h π r:=by rfl
end
@[go_sem] theorem d2z(m:Nat)(σ:List Nat)(b:Nat):b6g m σ b=bif decide (b<m)then some b else(σ.idxOf? b).map (m + ·):=by simp only[b6g,c9r]
theorem a01{m:Nat}{keep:List Nat}{F:Frm}{H:a03}:gcD m keep F H=bif a54 (a9s m (a2c keep F) H)&&(a9s m (a2c keep F) H).all (λb=>decide (m<=b))&&decide (m<=H.length)then
 some (c0h (b6g m (a9s m (a2c keep F) H)) (a2c keep F),gcH m (a9s m (a2c keep F) H) H)else none:=by
 have e:(λb=>Nat.ble m b)=λb=>decide (m<=b):=funext λb=>d4z m b;simp only[gcD,e,d4z]
theorem a00(m:Nat)(F:Frm)(H:a03):a9s m F H=(a24 H 1000000 ((H.take m).flatMap a12++a0d (F.map (·.2))) []).filter λb=>decide (m<=b):=by have e:(λb=>Nat.ble m b)=λb=>decide (m<=b):=funext λb=>d4z m b;simp only[a9s,a3o,e]
@[go_sem] theorem d9h(m:Nat)(σ:List Nat)(H:a03):gcH m σ H=(H.take m).map (Option.map (a0g (b6g m σ)))++a4q H σ (b6g m σ):=by rfl
@[go_sem] theorem f3d{α:Type}(p:α->Bool)(a:α)(l:List α):(a::l).filter p=bif p a then a::l.filter p else l.filter p:=by rw[List.filter_cons];cases p a<;>rfl
attribute [go_sem] List.reverse_cons List.reverse_nil List.filter_nil List.flatMap_cons List.flatMap_nil
theorem a1v(run:List AV->a03->Option (AV×a03))(args:List AV)(H:a03){σ:List Nat}(hσ:a24 H 1000000 (a0d args) []=σ)(hn:a54 σ=true)(hl:(σ.all λb=>decide (b<H.length))=true)
 {au:List AV}(ha:args.map (ren (a78 σ))=au){H0:a03}(hH:a4q H σ (a78 σ)=H0){v:AV}{H1:a03}(hr:run au H0=some (v,H1)) :
 a2v run args H=some (ren (a1d σ H.length) v,a1h σ H.length H1 0 H++(H1.drop σ.length).map (Option.map (a0g (a1d σ H.length))),σ):=by
 have e:(λb=>Nat.blt b H.length)=λb=>decide (b<H.length):=funext λb=>c9r b H.length;unfold a2v;simp only[a3o,hσ,hn,e,hl,f7h,f2v,ha,hH,hr]
theorem a63{E:Env}{ah:Bool}{call:CallF}{g:FuncId}{fs cs ar args:List AV}{H:a03}(hx:E.ext g=false)(hf:(E.fn g).isSome=true)(he:fs++ar++cs=args){v:AV}{H':a03}{σ:List Nat}
 (h:a2v (call g) args H=some (v,H',σ))(hl:H'.length=H.length):a20 E ah call (.func (.func g) fs cs) ar H=some (v,H',σ):=by
 have hb:Nat.ble H.length H.length=true:=by rw[f7k];exact f2q _
 simp only[a20,hx,hf,he,f2v,f4i,h,hl,hb,f8t,Bool.and_false]
theorem a93{E:Env}{call:CallF}{g:FuncId}{fs cs ar args:List AV}{H:a03}(hx:E.ext g=false)(hf:(E.fn g).isSome=true)(he:fs++ar++cs=args){v:AV}{H':a03}{σ:List Nat}
 (h:a2v (call g) args H=some (v,H',σ)):a20 E false call (.func (.func g) fs cs) ar H=some (v,H',σ):=by
 simp only[a20,hx,hf,he,f2v,f4i,h,Bool.false_and]
/- freezing -/
@[go_sem] theorem e1g{α β:Type}(a:α)(f:α->β)(d:β):d9b (some a) f d=f a:=by rfl
@[go_sem] theorem c29{m:Nat}{v:AV}{H:a03}:a22 false m v H=d9b (a36 m true (a3k (a02 H) m 12) v) (λv'=>some (v',(H.take m).map (Option.map (a0g (a1p m))))) (some (v,H)):=by simp only[a22,f4i];cases a36 m true (a3k (a02 H) m 12) v<;>rfl
section
variable {m:Nat}{top:Bool}{d:AV->Option AV}{h:FHeap}{n:Nat}
@[go_sem] theorem f2f(k:IntKind)(i:Int):a36 m top d (.int k i)=some (.int k i):=by rfl
@[go_sem] theorem e9c(b:Bool):a36 m top d (.bool b)=some (.bool b):=by rfl
@[go_sem] theorem f2d(s:List UInt8):a36 m top d (.str s)=some (.str s):=by rfl
@[go_sem] theorem e4h(r:List (List AV))(c:Option Nat):a36 m top d (.islice r c)=some (.islice r c):=by rfl
@[go_sem] theorem e9a(r:List AV):a36 m top d (.iptr r)=some (.iptr r):=by rfl
@[go_sem] theorem d9j:a36 m top d .nilslice=some .nilslice:=by rfl
@[go_sem] theorem e4g:a36 m top d .nilptr=some .nilptr:=by rfl
@[go_sem] theorem f6m(c:Option (Option Nat))(aa:List (List AV)):a36 m top d (sl c aa)=some (sl c aa):=a0i m top d _ (a16 c aa)
@[go_sem] theorem f2g(l:List AV):a36 m top d (.agg l)=a0j (a5r m top d l) λl=>some (.agg l):=by simp only[a36];cases a5r m top d l<;>rfl
@[go_sem] theorem e71(l:List AV):a36 m top d (.tuple l)=a0j (a5r m top d l) λl=>some (.tuple l):=by simp only[a36];cases a5r m top d l<;>rfl
@[go_sem] theorem e9b(f:Fn)(a b:List AV):a36 m top d (.func f a b)=a0j (a5r m top d a) λa=>a0j (a5r m top d b) λb=>some (.func f a b):=by simp only[a36];cases a5r m top d a<;>cases a5r m top d b<;>rfl
@[go_sem] theorem b9o:a5r m top d []=some []:=by rfl
@[go_sem] theorem a3r(v:AV)(l:List AV):a5r m top d (v::l)=a0j (a36 m top d v) λv=>a0j (a5r m top d l) λl=>some (v::l):=by simp only[a5r];cases a36 m top d v<;>cases a5r m top d l<;>rfl
@[go_sem] theorem a46(b o l:Nat)(c:Option Nat):a36 m top d (.slice b o l c)=bif decide (b<m)then(bif top then some (.slice b o l c)else none)else d (.slice b o l c):=by simp only[a36,d34,c9r]
@[go_sem] theorem f2e(b o l:Nat):a36 m top d (.ptr b o l)=bif decide (b<m)then(bif top then some (.ptr b o l)else none)else d (.ptr b o l):=by simp only[a36,d34,c9r]
@[go_sem] theorem a3g(hn:(0<n)=True)(b o l:Nat)(c:Option Nat):a3k h m n (.slice b o l c)=a0j (a9g (h b)) λkr=>bif decide (o+l<=kr.2.length)then a0j (a9t m (a3k h m (n-1)) ((kr.2.drop o).take l)) λrs=>some (.islice rs c)else none:=by
 obtain⟨n,rfl⟩:∃k,n=k+1:=⟨n-1,by have:=f7q hn;omega⟩
 simp only[a3k,Nat.add_sub_cancel];cases hb:h b with
 |none=>simp only[hb];rfl
 |some ob=>cases ob<;>simp only[hb,a9g,a0j,d4z];rename_i kk aa;cases a9t m (a3k h m n) ((aa.drop o).take l)<;>rfl
@[go_sem] theorem e9f(hn:(0<n)=True)(b i o:Nat):a3k h m n (.ptr b i o)=a0j (a9g (h b)) λkr=>a0j (kr.2[i]?) λr=>a0j (a5r m false (a3k h m (n-1)) (r.drop o)) λcs=>some (.iptr cs):=by
 obtain⟨n,rfl⟩:∃k,n=k+1:=⟨n-1,by have:=f7q hn;omega⟩
 simp only[a3k,Nat.add_sub_cancel];cases hb:h b with
 |none=>simp only[hb];rfl
 |some ob=>
  cases ob<;>simp only[hb,a9g,a0j];rename_i kk aa;cases aa[i]? with
  |none=>rfl
  |some r=>simp only;cases a5r m false (a3k h m n) (r.drop o)<;>rfl
theorem c65:a9t m d []=some []:=by rfl
theorem b5e(r:List AV)(rs:List (List AV)):a9t m d (r::rs)=a0j (a5r m false d r) λr=>a0j (a9t m d rs) λrs=>some (r::rs):=by simp only[a9t];cases a5r m false d r<;>cases a9t m d rs<;>rfl
theorem a26(a b:List (List AV)):a9t m d (a++b)=a0j (a9t m d a) λa=>a0j (a9t m d b) λb=>some (a++b):=by
 induction a with
 |nil=>simp only[f1e,c65,a0j];cases a9t m d b<;>rfl
 |cons x a ih=>
  simp only[f2o,b5e,ih];cases a5r m false d x with
  |none=>rfl
  |some x=>simp only[a0j];cases a9t m d a<;>cases a9t m d b<;>rfl
attribute [go_sem] c65 b5e
end
/-! ### append -/
section
variable {E:Env}{h:FHeap}{n:Nat}
@[go_sem] theorem e31(k b o l:Nat)(c:Option Nat):a2h h k (.slice b o l c)=a0j (a9g (h b)) λkr=>bif decide (kr.1=k)&&decide (o+l<=kr.2.length)then some ((kr.2.drop o).take l)else none:=by
 simp only[a2h];cases hb:h b with
 |none=>simp only[hb];rfl
 |some ob=>cases ob<;>simp only[hb,a9g,a0j,c6q,d4z]
@[go_sem] theorem b2w(k:Nat)(aa:List (List AV))(c:Option Nat):a2h h k (.islice aa c)=bif aa.all (λr=>decide (r.length=k))then some aa else none:=by simp only[a2h,c6q]
@[go_sem] theorem e9p(k:Nat)(aa:List (List AV))(c:Option (Option Nat)):a2h h k (sl c aa)=bif aa.all (λr=>decide (r.length=k))then some aa else none:=by
 cases c with
 |some c=>rw[a5s];exact b2w k aa c
 |none=>cases aa with
  |nil=>rfl
  |cons a r=>exact b2w k _ none
def apT(E:Env)(st xt:TypeId):Option TypeId:=match E.und st,E.und xt with
 |some (.slice e),some dx=>bif a34 dx || !(E.zero e).isSome || !(Nat.blt 0 (E.sz e))then none else some e
 |_,_=>none
def apS(E:Env)(h:FHeap)(n:Nat)(ac:TypeId)(xs:List (List AV)):AV->Option (AV×Eff)
 |.nilslice=>match xs with
  | []=>some (.nilslice,.none)
  |y::ys=>bif a2j E ac (y::ys).length then some (.slice n 0 (y::ys).length none,.new (.row (E.sz ac) (y::ys)))else none
 |.islice aa cap=>bif aa.all (λr=>r.length==E.sz ac)then match xs with
  | []=>some (.islice aa cap,.none)
  |y::ys=>match cap with
   |some c=>bif Nat.blt c (aa.length+(y::ys).length)&&a2j E ac (aa.length+(y::ys).length)then
    some (.slice n 0 (aa.length+(y::ys).length) none,.new (.row (E.sz ac) (aa++(y::ys))))else none
   |none=>none
  else none
 |.slice b off len cap=>match h b with
  |some (.row kk aa)=>bif kk==E.sz ac&&Nat.ble (off+len) aa.length then
   match cap with
   |none=>bif a2j E ac (len+xs.length)&&xs.all (λr=>r.all AV.storable)then
    some (.slice n 0 (len+xs.length) none,.kill b (.row (E.sz ac) (bif Nat.beq (off+len) aa.length then aa.drop off++xs else(aa.drop off).take len++xs)))else none
   |some c=>bif Nat.ble (len+xs.length) c then
    bif Nat.ble (off+len+xs.length) aa.length&&xs.all (λr=>r.all AV.storable)then
     some (.slice b off (len+xs.length) (some c),.set b (.row (E.sz ac) (aa.take (off+len)++xs++aa.drop (off+len+xs.length))))else none
    else bif a2j E ac (len+xs.length)then
     some (.slice n 0 (len+xs.length) none,.new (.row (E.sz ac) ((aa.drop off).take len++xs)))else none
   else none
  |_=>none
 |_=>none
@[go_sem] theorem e7z(st xt:TypeId)(s x:AV):a52 E h n st xt s x=a0j (apT E st xt) λe=>a0j (a2h h (E.sz e) x) λxs=>apS E h n e xs s:=by
 unfold a52 apT;cases E.und st with
 |none=>rfl
 |some d=>cases E.und xt with
  |none=>cases d<;>rfl
  |some dx=>
   cases d<;>try rfl
   rename_i e;simp only;cases(a34 dx || !(E.zero e).isSome || !(Nat.blt 0 (E.sz e)))with
   |true=>rfl
   |false=>
    simp only[f4i,a0j];cases a2h h (E.sz e) x with
    |none=>rfl
    |some xs=>cases s<;>rfl
@[go_sem] theorem f3p(e:TypeId)(y:List AV)(ys:List (List AV)):apS E h n e (y::ys) .nilslice=bif a2j E e (y::ys).length then some (.slice n 0 (y::ys).length none,.new (.row (E.sz e) (y::ys)))else none:=by rfl
@[go_sem] theorem e9s(e:TypeId):apS E h n e [] .nilslice=some (.nilslice,.none):=by rfl
@[go_sem] theorem e9t(e:TypeId)(xs:List (List AV))(b o l:Nat):apS E h n e xs (.slice b o l none)=a0j (a9g (h b)) λkr=>
 bif decide (kr.1=E.sz e)then(bif decide (o+l=kr.2.length)then(bif a2j E e (l+xs.length)&&xs.all (λr=>r.all AV.storable)then some (.slice n 0 (l+xs.length) none,.kill b (.row (E.sz e) (kr.2.drop o++xs)))else none)
  else(bif decide (o+l<=kr.2.length)&&a2j E e (l+xs.length)&&xs.all (λr=>r.all AV.storable)then some (.slice n 0 (l+xs.length) none,.kill b (.row (E.sz e) ((kr.2.drop o).take l++xs)))else none))else none:=by
 simp only[apS];cases hb:h b with
 |none=>simp only[hb];rfl
 |some ob=>
  cases ob<;>simp only[hb,a9g,a0j,c6q,d4z];rename_i kk aa;have e1:Nat.beq (o+l) aa.length=decide (o+l=aa.length):=by rw[d4v,c6q]
  rw[e1];by_cases h1:o+l=aa.length
  ·rw[f4m h1,f4m (by omega:o+l<=aa.length)];cases decide (kk=E.sz e)<;>rfl
  ·rw[f6w h1];cases decide (kk=E.sz e)<;>cases decide (o+l<=aa.length)<;>rfl
@[go_sem] theorem e7w(e:TypeId)(xs:List (List AV))(b o l c:Nat):apS E h n e xs (.slice b o l (some c))=a0j (a9g (h b)) λkr=>
 bif decide (kr.1=E.sz e)&&decide (o+l<=kr.2.length)then(bif decide (l+xs.length<=c)then
  (bif decide (o+l+xs.length<=kr.2.length)&&xs.all (λr=>r.all AV.storable)then some (.slice b o (l+xs.length) (some c),.set b (.row (E.sz e) (kr.2.take (o+l)++xs++kr.2.drop (o+l+xs.length))))else none)
  else(bif a2j E e (l+xs.length)then some (.slice n 0 (l+xs.length) none,.new (.row (E.sz e) ((kr.2.drop o).take l++xs)))else none))else none:=by
 simp only[apS];cases hb:h b with
 |none=>simp only[hb];rfl
 |some ob=>cases ob<;>simp only[hb,a9g,a0j,c6q,d4z]
theorem a6h{e:TypeId}{k:Nat}(hk:k<=1000000000)(hb:E.bytes e<=1000):a2j E e k=true:=by
 unfold a2j;rw[f4m (by omega),f8f,f2y]
 calc E.bytes e*(2*k+192)<=1000*(2*1000000000+192):=Nat.mul_le_mul hb (by omega)
  _<=281474976710656:=by decide
end
/- The length of a block's rows, by hand. -/
@[go_sem] theorem e8a(a b:Nat):(a:Int).tmod (b:Int)=((a%b:Nat):Int):=by rfl
@[go_sem] theorem f3w(a:Nat):(a:Int).tmod 2=((a%2:Nat):Int):=by rfl
@[go_sem] theorem f3v(a:Nat):(a:Int).tmod 3=((a%3:Nat):Int):=by rfl
@[go_sem] theorem f3u(a:Nat):(a:Int).tmod 4=((a%4:Nat):Int):=by rfl
@[go_sem] theorem f3t(a:Nat):(a:Int).tmod 9=((a%9:Nat):Int):=by rfl
@[go_sem] theorem f0m(a:Nat):(a:Int).tmod 10=((a%10:Nat):Int):=by rfl
@[go_sem] theorem f0n(a:Nat):(a:Int).tdiv 10=((a/10:Nat):Int):=by rfl
@[go_sem] theorem f0l(a:Nat):(a:Int).tmod 13=((a%13:Nat):Int):=by rfl
theorem wI{n:Nat}(h:n<9223372036854775808):IntKind.i64.wrap (n:Int)=n:=w64 (by omega) (by omega)
theorem wB{n:Nat}(h:n<256):IntKind.u8.wrap (n:Int)=n:=IntWalk.u8_in _ ⟨by omega,by omega⟩
theorem wI1{n:Nat}(h:n<9223372036854775807):IntKind.i64.wrap ((n:Int)+1)=((n+1:Nat):Int):=by rw[w64 (by omega) (by omega)];rfl
theorem b79(m b:Nat):a1p m b=bif decide (b<m)then some b else none:=by simp only[a1p,c9r]
attribute [go_sem] b79
/-! ### bytes to a string -/
def byT(E:Env)(s d:TypeId):Bool:=match E.und s,E.und d with
 |some (.slice e),some .string=>match E.und e with|some (.int .u8)=>true|_=>false
 |_,_=>false
section
variable {E:Env}{h:FHeap}{s d:TypeId}
theorem c8x{x:AV}(hb:byT E s d=true)(hx:∀t,x≠ .str t):a7i E h s d x=a0j (a2h h 1 x) λaa=>a0j (a60 aa) λl=>some (.str l):=by
 unfold byT at hb;cases hs:E.und s with
 |none=>rw[hs]at hb;cases hb
 |some ds=>
  cases hd:E.und d with
  |none=>rw[hs,hd]at hb;cases ds<;>cases hb
  |some dd=>
   rw[hs,hd]at hb;cases ds<;>first|(cases hb;done)|skip
   rename_i e;cases dd<;>first|(cases hb;done)|skip
   simp only at hb;cases he:E.und e with
   |none=>rw[he]at hb;cases hb
   |some de=>
    rw[he]at hb;cases de<;>first|(cases hb;done)|skip
    rename_i k;cases k<;>first|(cases hb;done)|skip
    unfold a7i;simp only[hs,hd,he];cases x<;>first|(exact absurd rfl (hx _))|skip
    all_goals
     simp only[a0j];cases a2h h 1 _ with
     |none=>rfl
     |some aa=>simp only;cases a60 aa<;>rfl
@[go_sem] theorem e2k{b o l:Nat}{c:Option Nat}(hb:byT E s d=true):a7i E h s d (.slice b o l c)=a0j (a2h h 1 (.slice b o l c)) λaa=>a0j (a60 aa) λl=>some (.str l):=c8x hb (λ_ h=>by cases h)
@[go_sem] theorem e4y:a60 []=some []:=by rfl
@[go_sem] theorem e3h(n:Int)(r:List (List AV)):a60 ([.int .u8 n]::r)=a0j (a60 r) λl=>some (UInt8.ofNat n.toNat::l):=by simp only[a60];cases a60 r<;>rfl
end
@[go_sem] theorem e9h{r:List AV}{n:Nat}(h:a0d r=[]):(List.replicate n r).flatMap a0d=[]:=a06 (FlatR.replicate h)
attribute [go_sem] List.length_replicate List.map_replicate List.length_append List.flatMap_append List.map_append
/-! ### calls that only read -/
def FlatO(o:Option AObj):Prop:=∀π,o.map (a0g π)=o
theorem FlatO.row{k:Nat}{aa:List (List AV)}(h:FlatR aa):FlatO (some (.row k aa)):=λπ=>by simp only[f2k,a0g,a05 π h]
theorem d4s(f:Nat->Option AObj)(σ:List Nat)(j:Nat):a02 (σ.map f) j=(σ[j]?).bind f:=by simp only[a02,f1l];cases σ[j]?<;>simp
theorem b2l{σ:List Nat}{n:Nat}{H:a03}(hf:∀b∈σ,FlatO (a02 H b)):∀(b:Nat) (H2:a03),(∀i,H2[i]?=H[b+i]?)->a1h σ n (σ.map (a02 H)) b H2=H2
 |_,[],_=>rfl
 |b,o::r,hh=>by
  have ih:=b2l hf (n:=n) (b+1) r (λi=>by
   have:=hh (i+1);rw[f4r]at this;rw[this]
   congr 1
   omega)
  simp only[a1h,ih]
  congr 1
  cases hx:σ.idxOf? b with
  |none=>rfl
  |some j=>simp only;have hj:=a2n hx;have hm:b∈σ:=c11 hj;rw[d4s,hj];simp only[f7s];rw[hf b hm _];have h0:=hh 0;simp only[f4z,f8z]at h0;simp[a02,<-h0]
theorem c96{E:Env}{ah:Bool}{call:CallF}{g:FuncId}{fs cs ar args:List AV}{H:a03}{v:AV}(σ:List Nat)(hx:E.ext g=false)(hf:(E.fn g).isSome=true)(he:fs++ar++cs=args)
 (hσ:a24 H 1000000 (a0d args) []=σ)(hn:a54 σ=true)(hl:(σ.all λb=>decide (b<H.length))=true)(bh:∀b∈σ,FlatO (a02 H b))
 {au:List AV}(ha:args.map (ren (a78 σ))=au){H0:a03}(hH:σ.map (a02 H)=H0)(hr:call g au H0=some (v,H0))(hv:refs v=[]) :
 a20 E ah call (.func (.func g) fs cs) ar H=some (v,H,σ):=by
 have hs:a4q H σ (a78 σ)=H0:=by rw[<-hH];unfold a4q;exact f4y λb hb=>bh b hb _
 have hc:=a1v (call g) args H hσ hn hl ha hs hr;have e1:ren (a1d σ H.length) v=v:=a0b _ v hv;have e2:a1h σ H.length H0 0 H=H:=by rw[<-hH];exact b2l bh 0 H (λi=>by rw[f2u])
 have e3:H0.drop σ.length=[]:=by rw[<-hH];simp
 rw[e1,e2,e3,f1g,f1b]at hc;exact a63 hx hf he hc rfl
end Go.Ax
/- AxMore: facts that all say 'true'; loops over any states; what a heap's values a24. -/
namespace Go.Ax
/-! ### what is reached -/
theorem c0t{f:Nat->Nat}:∀{L:List Nat} {b:Nat},b∈L->(L.map f).sum=f b+((L.erase b).map f).sum
 | [],b,h=>by simp at h
 |a::L,b,h=>by
  by_cases cP:a=b
  ·subst cP;simp
  ·have hb:b∈L:=by simpa[f9l cP]using h
   rw[List.erase_cons_tail (by simpa using cP)];simp only[f1a,List.sum_cons,c0t hb];omega
structure Reached(H:a03)(fX σ:List Nat):Prop where
 nodup:σ.Nodup
 start:∀b∈fX,b∈σ
 closed:∀b∈σ,∀c∈a12 (a02 H b),c∈σ
 least:∀T:Nat->Prop,(∀b∈fX,T b)->(∀b,T b->∀c∈a12 (a02 H b),T c)->∀b∈σ,T b
theorem b90(H:a03):∀(n:Nat) (todo aP L:List Nat),aP.Nodup->(∀b∈aP,∀c∈a12 (a02 H b),c∈aP∨c∈todo)->(∀b∈todo,b∈aP∨b∈L)->(∀b∈L,∀c∈a12 (a02 H b),c∈aP∨c∈L)->
 todo.length+(L.map λb=>(a12 (a02 H b)).length).sum<n->
 (a24 H n todo aP).Nodup∧(∀b∈aP,b∈a24 H n todo aP)∧(∀b∈todo,b∈a24 H n todo aP)∧(∀b∈a24 H n todo aP,∀c∈a12 (a02 H b),c∈a24 H n todo aP)∧
 ∀T:Nat->Prop,(∀b∈aP,T b)->(∀b∈todo,T b)->(∀b,T b->∀c∈a12 (a02 H b),T c)->∀b∈a24 H n todo aP,T b
 |0,todo,aP,L,_,_,_,_,hn=>by omega
 |n+1,[],aP,L,h1,h2,h3,h4,hn=>by
  unfold a24;refine⟨List.pairwise_reverse.2 (h1.imp λh=>f9l h),by simp,by simp,?_,?_⟩
  ·intro b hb c hc;rcases h2 b (by simpa using hb) c hc with h|h
   ·simpa using h
   ·simp at h
  ·intro T t1 t2 t3 b hb;exact t1 b (by simpa using hb)
 |n+1,b::todo,aP,L,h1,h2,h3,h4,hn=>by
  unfold a24;cases hc:a18 aP b with
  |true=>
   have hb:b∈aP:=a2p.1 hc;simp only[f2v];obtain⟨r1,r2,r3,r4,r5⟩:=b90 H n todo aP L h1 (λx hx c cW=>by
    rcases h2 x hx c cW with h|h
    ·exact .inl h
    ·simp only[f4h]at h;rcases h with rfl|h
     ·exact .inl hb
     ·exact .inr h) (λx hx=>h3 x (by simp[hx])) h4 (by simp only[f1c]at hn;omega)
   refine⟨r1,r2,?_,r4,?_⟩
   ·intro x hx;simp only[f4h]at hx;rcases hx with rfl|hx
    ·exact r2 _ hb
    ·exact r3 x hx
   ·intro T t1 t2 t3;exact r5 T t1 (λx hx=>t2 x (by simp[hx])) t3
  |false=>
   have hb:b∉aP:=λh=>by rw[a2p.2 h]at hc;cases hc
   simp only[f4i];have tS:b∈L:=(h3 b (by simp)).resolve_left hb;have hs:=c0t (f:=λb=>(a12 (a02 H b)).length) tS;obtain⟨r1,r2,r3,r4,r5⟩:=b90 H n (a12 (a02 H b)++todo) (b::aP) (L.erase b) (f8j.2 ⟨hb,h1⟩) (λx hx c cW=>by
    simp only[f4h]at hx⊢;rcases hx with rfl|hx
    ·exact .inr (by simp[cW])
    ·rcases h2 x hx c cW with h|h
     ·exact .inl (.inr h)
     ·simp only[f4h]at h;rcases h with rfl|h
      ·exact .inl (.inl rfl)
      ·exact .inr (by simp[h])) (λx hx=>by
    have fY:x∈aP∨x∈L:=by
     rw[f4s]at hx;rcases hx with hx|hx
     ·exact h4 b tS x hx
     ·exact h3 x (by simp[hx])
    by_cases oV:x=b
    ·exact .inl (by simp[oV])
    ·rcases fY with h|h
     ·exact .inl (by simp[h])
     ·exact .inr ((List.mem_erase_of_ne oV).2 h)) (λx hx c cW=>by
    have:=h4 x (List.mem_of_mem_erase hx) c cW;by_cases oV:c=b
    ·exact .inl (by simp[oV])
    ·rcases this with h|h
     ·exact .inl (by simp[h])
     ·exact .inr ((List.mem_erase_of_ne oV).2 h)) (by
    simp only[f1c]at hn;rw[hs]at hn;simp only[f2n];omega)
   refine⟨r1,λx hx=>r2 x (by simp[hx]),?_,r4,?_⟩
   ·intro x hx;simp only[f4h]at hx;rcases hx with rfl|hx
    ·exact r2 _ (by simp)
    ·exact r3 x (by simp[hx])
   ·intro T t1 t2 t3;refine r5 T ?_ ?_ t3
    ·intro x hx;simp only[f4h]at hx;rcases hx with rfl|hx
     ·exact t2 _ (by simp)
     ·exact t1 x hx
    ·intro x hx;rw[f4s]at hx;rcases hx with hx|hx
     ·exact t3 b (t2 b (by simp)) x hx
     ·exact t2 x (by simp[hx])
theorem c7t{H:a03}{fX:List Nat}(S:List Nat)(h1:∀b∈fX,b∈S)(h2:∀b∈S,∀c∈a12 (a02 H b),c∈S)
 (hn:fX.length+(S.map λb=>(a12 (a02 H b)).length).sum<1000000):Reached H fX (a24 H 1000000 fX []):=by
 obtain⟨r1,_,r3,r4,r5⟩:=b90 H 1000000 fX [] S List.nodup_nil (λb hb=>by simp at hb) (λb hb=>.inr (h1 b hb)) (λb hb c hc=>.inr (h2 b hb c hc)) hn;exact⟨r1,r3,r4,λT t1 t2=>r5 T (λb hb=>by simp at hb) t1 t2⟩
theorem b0v:∀{l:List Nat},l.Nodup->a54 l=true
 | [],_=>rfl
 |a::l,h=>by
  rw[f8j]at h;have hc:a18 l a=false:=by
   cases hc:a18 l a with
   |false=>rfl
   |true=>exact absurd (a2p.1 hc) h.1
  rw[c3x,hc,b0v h.2];rfl
structure Gc(m:Nat)(F:Frm)(H:a03)(R:Nat->Prop)(π:Nat->Option Nat)(H1:a03):Prop where
 low:∀b,b<m->π b=some b
 inj:∀a b c,π a=some c->π b=some c->a=b
 refs:∀b∈a0d (F.map (·.2)),R b
 lows:∀b,b<m->∀c∈a12 (a02 H b),R c
 closed:∀b,R b->∀c∈a12 (a02 H b),R c
 least:∀T:Nat->Prop,(∀b∈a0d (F.map (·.2)),T b)->(∀b,b<m->∀c∈a12 (a02 H b),T c)->(∀b,T b->∀c∈a12 (a02 H b),T c)->∀b,R b->T b
 here:∀b,R b->∃c,π b=some c
 heap:∀b c,π b=some c->a02 H1 c=(a02 H b).map (a0g π)
 len:∀T:List Nat,(∀b,R b->m<=b->b∈T)->H1.length<=m+T.length
theorem b98{m:Nat}{H:a03}{c:Nat}:c∈(H.take m).flatMap a12↔∃b,b<m∧c∈a12 (a02 H b):=by
 simp only[f9k];constructor
 ·rintro⟨o,ho,hc⟩
  obtain⟨b,hb⟩:=f7p.1 ho;rw[f8v]at hb;split at hb
  case isFalse=>cases hb
  rename_i ai;refine⟨b,ai,?_⟩;simp only[a02,hb,f8r];exact hc
 ·rintro⟨b,ai,hc⟩
  cases hb:H[b]? with
  |none=>simp[a02,hb,a12]at hc
  |some o=>refine⟨o,f7p.2 ⟨b,by rw[f8v,f2w ai,hb]⟩,?_⟩;simpa[a02,hb]using hc
theorem b50:∀{l T:List Nat},l.Nodup->(∀b∈l,b∈T)->l.length<=T.length
 | [],_,_,_=>by simp
 |a::l,T,bn,aV=>by rw[f8j]at bn;have ha:a∈T:=aV a (by simp);have:=b50 (l:=l) (T:=T.erase a) bn.2 (λb hb=>(List.mem_erase_of_ne (λe=>bn.1 (by rw[<-e];exact hb))).2 (aV b (by simp[hb])));rw[List.length_erase_of_mem ha]at this;have:0<T.length:=List.length_pos_of_mem ha;simp only[f1c];omega
theorem d2y{m:Nat}{keep:List Nat}{F:Frm}{H:a03}(hm:m<=H.length)(S:List Nat)(h1:∀b∈a0d ((a2c keep F).map (·.2)),b∈S)(h2:∀b,b<m->∀c∈a12 (a02 H b),c∈S)(h3:∀b∈S,∀c∈a12 (a02 H b),c∈S)
 (hn:((H.take m).flatMap a12).length+(a0d ((a2c keep F).map (·.2))).length+(S.map λb=>(a12 (a02 H b)).length).sum<1000000) :
 ∃(R:Nat->Prop) (π:Nat->Option Nat) (H1:a03),gcD m keep F H=some (c0h π (a2c keep F),H1)∧Gc m (a2c keep F) H R π H1∧m<=H1.length:=by
 have hr:=c7t (H:=H) (fX:=(H.take m).flatMap a12++a0d ((a2c keep F).map (·.2))) S (λb hb=>by
  rw[f4s]at hb;rcases hb with hb|hb
  ·obtain⟨a,ha,hc⟩:=b98.1 hb;exact h2 a ha b hc
  ·exact h1 b hb) h3 (by rw[f2n];exact hn)
 generalize hρ:a24 H 1000000 ((H.take m).flatMap a12++a0d ((a2c keep F).map (·.2))) []=ρ at hr;have hσ:a9s m (a2c keep F) H=ρ.filter λb=>decide (m<=b):=by rw[a00,hρ]
 have bn:(ρ.filter λb=>decide (m<=b)).Nodup:=hr.nodup.filter _;have dN:∀b,b∈(ρ.filter λb=>decide (m<=b))↔b∈ρ∧m<=b:=λb=>by rw[f8x];simp
 have d5:(H.take m).length=m:=by simp;omega
 have ak:(gcH m (ρ.filter λb=>decide (m<=b)) H).length=m+(ρ.filter λb=>decide (m<=b)).length:=by rw[d9h];simp[a4q];omega
 refine⟨(·∈ρ),b6g m (ρ.filter λb=>decide (m<=b)),gcH m (ρ.filter λb=>decide (m<=b)) H,?_,?_,by rw[ak];omega⟩
 ·rw[a01,hσ,b0v bn,f4m hm];have:(ρ.filter λb=>decide (m<=b)).all (λb=>decide (m<=b))=true:=by
   rw[f4l];intro b hb;simpa using((dN b).1 hb).2
  rw[this];rfl
 ·have hπ:∀b,b6g m (ρ.filter λb=>decide (m<=b)) b=if b<m then some b else((ρ.filter λb=>decide (m<=b)).idxOf? b).map (m + ·):=by
   intro b;rw[d2z];by_cases h:b<m<;>simp[h]
  refine⟨λb hb=>by rw[hπ,f2w hb],?_,λb hb=>hr.start b (by simp[hb]),λb hb c hc=>hr.start c (by rw[f4s];exact .inl (b98.2 ⟨b,hb,hc⟩)),λb hb c hc=>hr.closed b hb c hc,?_,?_,?_,?_⟩
  ·intro a b c ha hb;rw[hπ]at ha hb;split at ha<;>split at hb
   ·cases ha;cases hb;rfl
   ·cases ha;obtain⟨j,hj,e⟩:=a08 hb;omega
   ·cases hb;obtain⟨j,hj,e⟩:=a08 ha;omega
   ·obtain⟨i,hi,e1⟩:=a08 ha;obtain⟨j,hj,e2⟩:=a08 hb;have g1:=a2n hi;have g2:=a2n hj;obtain rfl:i=j:=by omega
    rw[g1]at g2;exact z9o g2
  ·intro T t1 t2 t3 b hb;refine hr.least T (λx hx=>?_) t3 b hb;rw[f4s]at hx;rcases hx with hx|hx
   ·obtain⟨a,ha,hc⟩:=b98.1 hx;exact t2 a ha x hc
   ·exact t1 x hx
  ·intro b hb;rw[hπ];split
   ·exact⟨_,rfl⟩
   ·rename_i h;have sx:=(dN b).2 ⟨hb,by omega⟩;obtain⟨j,hj⟩:=f7p.1 sx;rw[a6u bn hj];exact⟨_,rfl⟩
  ·intro b c sy;have lQ:=sy;rw[hπ]at lQ;rw[d9h];split at lQ
   ·rename_i h;cases lQ;simp only[a02];rw[f2l (by simp;omega),f1l,f8v,f2w h];cases H[b]? with
    |none=>rfl
    |some o=>rfl
   ·rename_i h;obtain⟨j,hj,rfl⟩:=a08 lQ;have hg:=a2n hj;simp only[a02];rw[f2r (by simp only[c10,d5];omega)];simp only[c10,d5,f7g,a4q,f1l,hg,f2k,f8r];rfl
  ·intro T hT;rw[ak];have:(ρ.filter λb=>decide (m<=b)).length<=T.length:=by
    have aV:∀b∈(ρ.filter λb=>decide (m<=b)),b∈T:=λb hb=>hT b ((dN b).1 hb).1 ((dN b).1 hb).2;exact b50 bn aV
   omega
end Go.Ax
/- AxSup: closed runs over facts of calls, a4f a given fact. -/
namespace Go.Ax
def a0o(E:Env)(x:Fact):Prop:=sem E [] x.g x.args []=some (x.v,[])
theorem c56{E:Env}{g:FuncId}{args:List AV}{v:AV}:∀{M:List Fact},(∀x∈M,a0o E x)->e5m M g args=some v->sem E [] g args []=some (v,[])
 | [],_,h=>by simp[e5m]at h
 |x::r,hM,h=>by
  simp only[e5m,cond_eq_ite]at h;split at h
  ·rename_i hc;simp only[f1d,g0j]at hc;cases h;have:=hM x (by simp);obtain⟨g',a',v'⟩:=x;simp only at hc this;have h1:=hc.1;have h2:=b82 _ _ hc.2;subst h1;subst h2;exact this
  ·exact c56 (λx hx=>hM x (by simp[hx])) h
theorem b44{E:Env}{c:CallF}(hc:CallF.le c (sem E []))(lf:Nat):CallF.le (b0t E c lf) (sem E []):=λg args H r h=>b8r (λ_ h=>by cases h) lf (b1o hc (f2q lf) h)
theorem b4t{E:Env}{M:List Fact}(hM:∀x∈M,a0o E x):∀n,CallF.le (d1v E M n) (sem E [])
 |0=>λg args H r h=>by simp[d1v]at h
 |n+1=>λg args H r h=>by
  have h:f1s M (b0t E (d1v E M n) (n+1)) g args H=some r:=h;unfold f1s at h;split at h
  ·split at h
   ·rename_i v hs;cases h;exact c56 hM hs
   ·exact b44 (b4t hM n) _ _ _ _ _ h
  ·exact b44 (b4t hM n) _ _ _ _ _ h
theorem a0h{E:Env}{M:List Fact}(hM:∀x∈M,a0o E x)(n:Nat){g:Nat}{args:List AV}{v:AV}(h:b0t E (d1v E M n) n g args []=some (v,[])):a0o E ⟨g,args,v⟩:=b44 (b4t hM n) n _ _ _ _ h
theorem a0q{E:Env}:∀x∈([]:List Fact),a0o E x:=by simp
theorem a0e{E:Env}{x:Fact}{M:List Fact}(hx:a0o E x)(hM:∀x∈M,a0o E x):∀y∈x::M,a0o E y:=by
 intro y hy;simp only[f4h]at hy;rcases hy with rfl|hy
 ·exact hx
 ·exact hM y hy
end Go.Ax
/- AxGrow: grown slices; calls that read one block. -/
namespace Go.Ax
def grV(b:Nat):List (List AV)->AV|[]=>.nilslice|_::rs=>.slice b 0 (rs.length+1) none
def grH(k:Nat):List (List AV)->a03|[]=>[]|r::rs=>[some (.row k (r::rs))]
theorem a0r(b:Nat):grV b [] = .nilslice:=by rfl
theorem a0s(k:Nat):grH k []=[]:=by rfl
theorem a09(b:Nat)(r:List AV)(rs:List (List AV)):grV b (r::rs) = .slice b 0 (rs.length+1) none:=by rfl
theorem a0a(k:Nat)(r:List AV)(rs:List (List AV)):grH k (r::rs)=[some (.row k (r::rs))]:=by rfl
theorem b9k(b:Nat)(l:List (List AV))(x:List AV):grV b (l++[x]) = .slice b 0 (l.length+1) none:=by cases l<;>simp[grV]
theorem c60(k:Nat)(l:List (List AV))(x:List AV):grH k (l++[x])=[some (.row k (l++[x]))]:=by cases l<;>simp[grH]
theorem a4z(b:Nat){l:List (List AV)}(h:l≠[]):grV b l = .slice b 0 l.length none:=by cases l with|nil=>exact absurd rfl h|cons a r=>rfl
theorem a50(k:Nat){l:List (List AV)}(h:l≠[]):grH k l=[some (.row k l)]:=by cases l with|nil=>exact absurd rfl h|cons a r=>rfl
theorem c17{H:a03}{b:Nat}(hr:a12 (a02 H b)=[]):a24 H 1000000 [b] []=[b]:=by
 have e1:∀n,a24 H (n+2) [b] []=[b]:=by intro n;unfold a24;simp only[a18,f4i,hr,f1b];unfold a24;rfl
 exact e1 999998
theorem a2g{E:Env}{ah:Bool}{call:CallF}{g:FuncId}{fs cs ar args:List AV}{H:a03}{v:AV}{b:Nat}{o:AObj}(hx:E.ext g=false)(hf:(E.fn g).isSome=true)(he:fs++ar++cs=args)
 (hb:a02 H b=some o)(ho:a12 (some o)=[])(bh:FlatO (some o))(aJ:a0d args=[b]){au:List AV}(ha:args.map (ren (a78 [b]))=au)(hr:call g au [some o]=some (v,[some o]))(hv:refs v=[]) :
 a20 E ah call (.func (.func g) fs cs) ar H=some (v,H,[b]):=by
 have ai:b<H.length:=by
  unfold a02 at hb;cases hh:H[b]? with
  |none=>rw[hh]at hb;cases hb
  |some x=>exact(f1i.1 hh).1
 refine c96 [b] hx hf he (by rw[aJ];exact c17 (by rw[hb];exact ho)) rfl (by simpa using ai) ?_ ha (by simp only[f1a,f1g,hb]) hr hv;intro c hc;simp only[f2x]at hc;subst hc;rw[hb];exact bh
theorem a0p{k:Nat}{aa:List (List AV)}(h:FlatR aa):a12 (some (.row k aa))=[]:=by simp only[a12];exact a06 h
theorem a1i{H:a03}{b:Nat}{o:AObj}(hb:a02 H b=some o):b<H.length:=by
 unfold a02 at hb;cases hh:H[b]? with
 |none=>rw[hh]at hb;cases hb
 |some x=>exact(f1i.1 hh).1
theorem a9c{H:a03}{b:Nat}{o:AObj}(hb:a02 H b=some o):H.set b (some o)=H:=by have ai:=a1i hb;unfold a02 at hb;rw[z9e ai]at hb;simp only[f8r]at hb;rw[<-hb];exact List.set_getElem_self ai
theorem b4e(b n:Nat)(o:Option AObj)(ho:∀π,o.map (a0g π)=o):∀(s:Nat) (H:a03),s<=b->a1h [b] n [o] s H=H.set (b-s) o
 |s,[],_=>by simp[a1h]
 |s,x::H,hs=>by
  simp only[a1h];by_cases m8:s=b
  ·subst m8;have e:([s]:List Nat).idxOf? s=some 0:=by simp[f7e]
   have du:∀(t:Nat) (H:a03),s<t->a1h [s] n [o] t H=H:=by
    intro t H
    induction H generalizing t with
    |nil=>intro _;rfl
    |cons y H ih=>
     intro ht;have e2:([s]:List Nat).idxOf? t=none:=by simp[f7e];omega
     simp only[a1h,e2,ih (t+1) (by omega)]
   simp only[e,du (s+1) H (by omega),Nat.sub_self,List.set_cons_zero]
   congr 1
   exact ho _
  ·have e:([b]:List Nat).idxOf? s=none:=by simp[f7e];omega
   have e2:b-s=(b-(s+1))+1:=by omega
   rw[e2,List.set_cons_succ];simp only[e,b4e b n o ho (s+1) H (by omega)]
theorem a3h{E:Env}{ah:Bool}{call:CallF}{g:FuncId}{fs cs ar args:List AV}{H:a03}{v v':AV}{b:Nat}{o o':AObj}(hx:E.ext g=false)(hf:(E.fn g).isSome=true)(he:fs++ar++cs=args)
 (hb:a02 H b=some o)(ho:a12 (some o)=[])(bh:FlatO (some o))(aJ:a0d args=[b]){au:List AV}(ha:args.map (ren (a78 [b]))=au)(hr:call g au [some o]=some (v,[some o']))(rV:FlatO (some o'))(hv:ren (a1d [b] H.length) v=v') :
 a20 E ah call (.func (.func g) fs cs) ar H=some (v',H.set b (some o'),[b]):=by
 have ai:=a1i hb;have hc:=a1v (call g) args H (σ:=[b]) (by rw[aJ];exact c17 (by rw[hb];exact ho)) rfl (by simpa using ai) ha (H0:=[some o]) (by simp only[a4q,f1a,f1g,hb];congr 1;exact bh _) hr;rw[hv,b4e b _ _ rV 0 H (f2i _)]at hc;simp only[Nat.sub_zero,List.drop_succ_cons,f6s,f1g,f1b,f1c,f1h]at hc;exact a63 hx hf he hc (by simp)
theorem a2b(b o l:Nat)(c:Option Nat):ren (a78 [b]) (.slice b o l c) = .slice 0 o l c:=by simp[ren,a78]
theorem a5c(b o n l:Nat)(c:Option Nat):ren (a1d [b] n) (.slice 0 o l c) = .slice b o l c:=by rfl
/-! ### slices of slices -/
def inB(i:Int)(n:Nat):Bool:=decide (0<=i)&&decide (i<=(n:Int))
@[go_sem] theorem f1w(a n:Nat):inB (a:Int) n=decide (a<=n):=by unfold inB;rw[f4m (by omega),f8f,g0i,f2y,f2y];omega
@[go_sem] theorem g0y(n:Nat):inB 0 n=true:=by simp[inB]
theorem c0c{k:IntKind}{i:Int}{n d:Nat}:a1k (some (.int k i)) n d=bif inB i n then some i.toNat else none:=by rfl
attribute [go_sem] Option.map_some Option.map_none
section
variable {E:Env}{h:FHeap}{t:TypeId}
theorem c03{x:AV}{lo hi mx:Option AV}(hs:slT E t=none)(hx:∀s,x≠ .str s)(hy:∀cs,x≠ .iptr cs:=by intro _ h;cases h):a5z E h t x lo hi mx=none:=by
 unfold a5z;unfold slT at hs;cases hu:E.und t with
 |none=>rfl
 |some d=>rw[hu]at hs;cases d<;>first|(cases hs;done)|(cases x<;>first|rfl|exact absurd rfl (hx _)|exact absurd rfl (hy _))
@[go_sem] theorem e30{k k':IntKind}{i j:Int}:a5z E h t .nilslice none (some (.int k i)) (some (.int k' j))=a0j (slT E t) λe=>bif isT E e&&inB j 0&&inB i j.toNat then some .nilslice else none:=by
 cases hs:slT E t with
 |none=>exact c03 hs (λ_ h=>by cases h)
 |some e=>simp only[a5z,a4r.1 hs,a0j,c0c,isT];cases(E.und e).isSome<;>cases inB j 0<;>first|rfl|(simp only[f2v,f8f];cases inB i j.toNat<;>rfl)
@[go_sem] theorem e4q{b o n:Nat}{c:Option Nat}{k k':IntKind}{i j:Int}:a5z E h t (.slice b o n c) none (some (.int k i)) (some (.int k' j))=a0j (slT E t) λe=>a0j (a9g (h b)) λkr=>bif isT E e&&decide (kr.1=E.sz e)&&inB j (a1j n c)&&inB i j.toNat then some (.slice b o i.toNat (some j.toNat))else none:=by
 cases hs:slT E t with
 |none=>exact c03 hs (λ_ h=>by cases h)
 |some e=>
  simp only[a5z,a4r.1 hs,a0j,c0c,isT];cases hb:h b with
  |none=>cases(E.und e).isSome<;>rfl
  |some ob=>cases ob with
   |map=>cases(E.und e).isSome<;>rfl
   |siter=>cases(E.und e).isSome<;>rfl
   |uset=>cases(E.und e).isSome<;>rfl
   |miter=>cases(E.und e).isSome<;>rfl
   |yloop=>cases(E.und e).isSome<;>rfl
   |row kk aa=>simp only[a9g,c6q];cases(E.und e).isSome<;>cases decide (kk=E.sz e)<;>cases inB j (a1j n c)<;>first|rfl|(simp only[f2v,f8f];cases inB i j.toNat<;>rfl)
@[go_sem] theorem e4p{b o n:Nat}{c:Option Nat}{k:IntKind}{j:Int}:a5z E h t (.slice b o n c) none (some (.int k j)) none=a0j (slT E t) λe=>a0j (a9g (h b)) λkr=>bif isT E e&&decide (kr.1=E.sz e)&&inB j (a1j n c)then some (.slice b o j.toNat c)else none:=by
 cases hs:slT E t with
 |none=>exact c03 hs (λ_ h=>by cases h)
 |some e=>
  have hc:c.map (λx=>x-0)=c:=by cases c<;>rfl
  simp only[a5z,a4r.1 hs,a0j,c0c,isT];cases hb:h b with
  |none=>cases(E.und e).isSome<;>rfl
  |some ob=>cases ob with
   |map=>cases(E.und e).isSome<;>rfl
   |siter=>cases(E.und e).isSome<;>rfl
   |uset=>cases(E.und e).isSome<;>rfl
   |miter=>cases(E.und e).isSome<;>rfl
   |yloop=>cases(E.und e).isSome<;>rfl
   |row kk aa=>simp only[a9g,c6q];have e0:∀m,a1k (none:Option AV) m 0=some 0:=λ_=>rfl;cases(E.und e).isSome<;>cases decide (kk=E.sz e)<;>cases inB j (a1j n c)<;>first|rfl|(simp only[f2v,f8f,e0,hc];rfl)
end
attribute [go_sem] Nat.le_refl Int.toNat_natCast
@[go_sem] theorem b2f{α β:Type}(f:α->β)(l:List α):(l.map f).take l.length=l.map f:=by rw[<-c10 (f:=f),f6p]
attribute [go_sem] List.take_length
@[go_sem] theorem d3t(n c:Nat):a1j n (some c)=c:=by rfl
@[go_sem] theorem d3u(n:Nat):a1j n none=n:=by rfl
end Go.Ax
/- AxMelt: calls over flat arguments that return a pointer to a block of their own. -/
namespace Go.Ax
theorem b8a{E:Env}{call:CallF}{g:FuncId}{fs cs ar args:List AV}{H:a03}{k:Nat}{aa:List (List AV)}(hx:E.ext g=false)(hf:(E.fn g).isSome=true)(he:fs++ar++cs=args)(aJ:a0d args=[])(hr:call g args []=some (.ptr 0 0 0,[some (.row k aa)]))(bh:FlatR aa) :
 a20 E false call (.func (.func g) fs cs) ar H=some (.ptr H.length 0 0,H++[some (.row k aa)],[]):=by
 have hc:=a1v (call g) args H (σ:=[]) (by rw[aJ];rfl) rfl rfl (au:=args) (a31 _ aJ) (H0:=[]) rfl hr;have hp:∀(s:Nat) (H:a03),a1h [] H.length [some (AObj.row k aa)] s H=H:=by
  intro s H;have:∀(n s:Nat) (H:a03),a1h [] n [some (AObj.row k aa)] s H=H:=by
   intro n s H
   induction H generalizing s with
   |nil=>rfl
   |cons x H ih=>simp[a1h,ih]
  exact this _ _ _
 rw[hp]at hc;have h1:=λπ=>a05 π bh;have hb:ren (a1d [] H.length) (.ptr 0 0 0) = .ptr H.length 0 0:=rfl;rw[hb]at hc;simp only[f1h,f6s,f1a,f1g,f2k,a0g,h1]at hc;exact a93 hx hf he hc
@[go_sem] theorem e2c{v:AV}{H:a03}:a22 true 0 v H=e1n 0 v H:=by rfl
theorem c8r{m:Nat}(hm:(m=0)=False){v:AV}{H:a03}:a22 true m v H=some (v,H):=by
 cases m with
 |zero=>simp at hm
 |succ n=>rfl
attribute [go_sem] c8r
@[go_sem] theorem e8z{m b i o:Nat}{H:a03}:e1n m (.ptr b i o) H=bif decide (m<=b)then a0j (a9g (a02 H b)) λkr=>a0j (frzT m (a3k (a4f (a02 H) b) m 12) kr.2) λbm=>some (.ptr m i o,(H.take m).map (Option.map (a0g (a1p m)))++[some (.row kr.1 bm)])else none:=by
 have e:Nat.ble m b=decide (m<=b):=by rw[g0i,f7k,f2y]
 simp only[e1n,e];cases decide (m<=b)with
 |false=>rfl
 |true=>
  simp only[f2v];cases h:a02 H b with
  |none=>rfl
  |some ob=>cases ob with
   |row k aa=>simp only[a9g,a0j];cases frzT m (a3k (a4f (a02 H) b) m 12) aa<;>rfl
   |map=>rfl
   |siter=>rfl
   |uset=>rfl
   |miter=>rfl
   |yloop=>rfl
@[go_sem] theorem e6f{m:Nat}{H:a03}:e1n m .nilslice H=some (.nilslice,(H.take m).map (Option.map (a0g (a1p m)))):=by rfl
@[go_sem] theorem e9d{m:Nat}{d:AV->Option AV}:frzT m d []=some []:=by rfl
@[go_sem] theorem e73{m:Nat}{d:AV->Option AV}{r:List AV}{rs:List (List AV)}:frzT m d (r::rs)=a0j (a5r m true d r) λr'=>a0j (frzT m d rs) λe7=>some (r'::e7):=by
 simp only[frzT];cases a5r m true d r with
 |none=>rfl
 |some r'=>cases frzT m d rs<;>rfl
@[go_sem] theorem e3q{h:FHeap}{b x:Nat}:a4f h b x=bif decide (x=b)then none else h x:=by
 unfold a4f;by_cases hx:x=b
 ·subst hx;rw[show Nat.beq x x=true from Nat.beq_refl x,f4m rfl]
 ·rw[f6w hx];cases hq:Nat.beq x b with
  |false=>rfl
  |true=>exact absurd (f7o hq) hx
theorem b77{n:Nat}{H1:a03}:∀(R:a03) (s:Nat),2<=s->a1h [0,1] n H1 s R=R
 | [],s,_=>by simp[a1h]
 |o::R,s,hs=>by
  have e:([0,1]:List Nat).idxOf? s=none:=by rw[List.idxOf?_eq_none_iff];simp;omega
  simp only[a1h,e,b77 R (s+1) (by omega)]
theorem c6o{E:Env}{ah:Bool}{call:CallF}{g:FuncId}{fs cs ar args:List AV}{X Y:AObj}{R:a03}{v:AV}(hx:E.ext g=false)(hf:(E.fn g).isSome=true)(he:fs++ar++cs=args)(aJ:a0d args=[0])(hX:a12 (some X)=[1])(hY:a12 (some Y)=[])
 (ha:args.map (ren (a78 [0,1]))=args)(vl:a0g (a78 [0,1]) X=X)(je:∀n,a0g (a1d [0,1] n) X=X)(nL:FlatO (some Y))(hr:call g args [some X,some Y]=some (v,[some X,some Y]))(hv:refs v=[]) :
 a20 E ah call (.func (.func g) fs cs) ar (some X::some Y::R)=some (v,some X::some Y::R,[0,1]):=by
 have tV:∀π,a0g π Y=Y:=λπ=>by have:=nL π;simpa using this
 have hc:=a1v (call g) args (some X::some Y::R) (σ:=[0,1]) (by rw[aJ];simp+decide only[go_sem,hX,hY]) rfl (by simp) ha (H0:=[some X,some Y]) (by simp[a4q,a02,vl,tV]) hr;have hp:a1h [0,1] (some X::some Y::R).length [some X,some Y] 0 (some X::some Y::R)=some X::some Y::R:=by simp only[c1a,b77 R 2 (by omega)];simp+decide [c5c,a02,je,tV,f7e]
 rw[hp,a0b _ v hv]at hc;simp only[f1c,f1h,List.drop_succ_cons,f6s,f1g,f1b]at hc;exact a63 hx hf he hc rfl
end Go.Ax
/- AxCpy: copy and clear, ar rewrite rules. -/
namespace Go.Ax
section
variable {E:Env}{ah:Bool}{call:CallF}{F:Frm}{H:a03}{h:FHeap}
end
section
variable {E:Env}{t:TypeId}{c:Bool}{x y:BitVec 64}
end
section
variable {E:Env}{h:FHeap}{t:TypeId}
end
end Go.Ax
/- AxFz: a loop that freezes at its end, as rewrite rules. -/
namespace Go.Ax
@[go_sem] theorem f2h(m:Nat)(H:a03)(v:AV):d7d m H v=(a36 m true (a3k (a02 H) m 12) v).getD .junk:=by unfold d7d;cases a36 m true (a3k (a02 H) m 12) v<;>rfl
@[go_sem] theorem e99(m:Nat)(top:Bool)(d:AV->Option AV):a36 m top d .junk=some .junk:=by rfl
@[go_sem] theorem e74(m:Nat)(H:a03)(s:Nat)(v:AV)(F:Frm):b9p m H ((s,v)::F)=(s,d7d m H v)::b9p m H F:=by rfl
@[go_sem] theorem e9e(m:Nat)(H:a03):b9p m H []=[]:=by rfl
@[go_sem] theorem e4f{α:Type}(a b:α):(some a).getD b=a:=by rfl
@[go_sem] theorem e6w(s:Nat):a35 [] s = .junk:=by rfl
@[go_sem] theorem e5u:refs .junk=[]:=by rfl
theorem c8o(m:Nat)(Q:b02)(e:AExit)(F:Frm)(H:a03):fz m Q e F H=Q e (b9p m H F) (b0q m H):=by rfl
theorem a8h{E:Env}{M:List Fact}{m N:Nat}{g:FuncId}{cur:Nat}{keep:List Nat}{b:Code}{F:Frm}{H:a03}{Q:b02}(hk:E.keep g cur=keep)(hz:d4w keep=true)(j:Nat)(hj:c9p keep=j){σ:Type}(Fs:σ->Frm)(Hs:σ->a03)(b9:σ->Nat)(Inv:σ->Prop)(s0:σ)(h0:gcD m keep F H=some (Fs s0,Hs s0))(hi:Inv s0)
 (h:∀s,Inv s->Wp (cx E M m N g cur) b (Fs s) (Hs s) (lp m keep Fs Hs b9 Inv (b9 s) (fz (m+j) Q)))(hx:a84 b=none:=by rfl):Wp (cx E M m N g cur) (.loop b) F H Q:=by
 refine c9t hk hz j hj (λn F1 H1=>∃s,F1=Fs s∧H1=Hs s∧n=b9 s∧Inv s) (b9 s0) ⟨_,_,h0,s0,rfl,rfl,rfl,hi⟩ ?_ hx
 rintro n F1 H1 ⟨s,rfl,rfl,rfl,hs⟩
 refine b3s (h s hs) ?_;intro e F' H' h2;cases e with
 |normal=>obtain⟨s',g1,g2,g3⟩:=h2;exact⟨_,_,_,g1,g2,s',rfl,rfl,rfl,g3⟩
 |exit id=>exact h2
 |ret=>exact h2
end Go.Ax
/- AxMl: a loop over a set of numbers: as a condition on its end. -/
namespace Go.Ax
section
variable {E:Env}{M:List Fact}{m N:Nat}{g:FuncId}{cur:Nat}{keep:List Nat}{id:Nat}{ap:Array Oper}{it nx:Nat}{n6:List Oper}{al:Code}
end
end Go.Ax
/- AxSetS: sets of numbers, as rewrite rules. -/
namespace Go.Ax
section
variable {E:Env}{h:FHeap}{t:TypeId}{ah:Bool}{call:CallF}{F:Frm}{H:a03}
@[go_sem] theorem e6e:b4o E t=bif b8m E t then .uset []else .map [] [] [] 0:=by rfl
/-! lookup -/
/-! update -/
/-! delete -/
/-! length -/
/-! ranging -/
/-! frames and heaps -/
variable (π:Nat->Option Nat)
end
end Go.Ax
/- AxTwo: slices of slices that grow: one block of rows, a block for each that is not empty. -/
namespace Go.Ax
theorem a3y{H L:a03}{c:Nat}(h:(c<H.length)=True):a02 (H++L) c=a02 H c:=by unfold a02;rw[f2l (f7q h)]
theorem a5l{H L:a03}(i:Nat):a02 (H++L) (H.length+i)=a02 L i:=by unfold a02;rw[f2r (by omega)];congr 1;rw[f7g]
theorem heapF_hi0{H L:a03}:a02 (H++L) H.length=a02 L 0:=a5l 0
theorem b59{H:a03}{a c:Nat}{o:Option AObj}:a02 (H.set a o) c=if a=c∧a<H.length then o else a02 H c:=by
 unfold a02;rw[f3a];by_cases h:a=c
 ·subst h;by_cases hl:a<H.length
  ·simp[hl]
  ·simp[hl]
 ·simp[h]
theorem a6v{H:a03}{a c:Nat}{o:Option AObj}(h:a≠c):a02 (H.set a o) c=a02 H c:=by rw[b59,f2m (λe=>h e.1)]
theorem b7r{H:a03}{a c:Nat}{o:Option AObj}(h:(a=c)=False):a02 (H.set a o) c=a02 H c:=a6v (λe=>h▸e)
theorem b2o{H:a03}{a:Nat}{o:Option AObj}(h:a<H.length):a02 (H.set a o) a=o:=by rw[b59,f2w ⟨rfl,h⟩]
def slV(b:Nat)(c:Option Nat):List (List AV)->AV|[]=>.nilslice|_::rs=>.slice b 0 (rs.length+1) c
theorem d5q(b:Nat)(f:List (List AV)):slV b none f=grV b f:=by cases f<;>rfl
theorem e5f(b:Nat)(c:Option Nat){f:List (List AV)}(h:f≠[]):slV b c f = .slice b 0 f.length c:=by cases f with|nil=>exact absurd rfl h|cons a r=>rfl
theorem b3z{H L:a03}{o:Option AObj}(i:Nat):(H++L).set (H.length+i) o=H++L.set i o:=by rw[List.set_append_right _ _ (by omega),f7g]
theorem b08{H L:a03}{o:Option AObj}:(H++L).set H.length o=H++L.set 0 o:=b3z 0
theorem c0y{H L:a03}{o:Option AObj}{a:Nat}(h:(a<H.length)=True):(H++L).set a o=H.set a o++L:=List.set_append_left _ _ (f7q h)
theorem a43(n:Nat):(n<n+1)=True:=by simp
theorem a5k{a n k:Nat}(h:(a<n)=True):(a<n+k)=True:=by have:=f7q h;simp;omega
def a3j(aC:Nat->Nat)(cp:Nat->Option Nat)(fo:List (List (List AV))):List (List AV):=fo.mapIdx λj f=>[slV (aC j) (cp j) f]
structure Two(H:a03)(b k:Nat)(aC:Nat->Nat)(cp:Nat->Option Nat)(fo:List (List (List AV))):Prop where
 top:a02 H b=some (.row 1 (a3j aC cp fo))
 sub:∀(j:Nat) (f:List (List AV)),fo[j]?=some f->f≠[]->a02 H (aC j)=some (.row k f)∧aC j≠b
 inj:∀(i j:Nat) (f g:List (List AV)),fo[i]?=some f->fo[j]?=some g->f≠[]->g≠[]->aC i=aC j->i=j
 flat:∀f∈fo,FlatR f
theorem a6g{aC:Nat->Nat}{cp:Nat->Option Nat}{fo:List (List (List AV))}{j:Nat}{f:List (List AV)}(h:fo[j]?=some f):(a3j aC cp fo)[j]?=some [slV (aC j) (cp j) f]:=by unfold a3j;rw[f4n,h];rfl
theorem a3n(aC:Nat->Nat)(cp:Nat->Option Nat)(fo:List (List (List AV))):(a3j aC cp fo).length=fo.length:=by unfold a3j;simp
theorem b38(b:Nat)(c:Option Nat){f:List (List AV)}:refs (slV b c f)=if f=[]then[]else[b]:=by cases f<;>rfl
theorem a9f{aC:Nat->Nat}{cp:Nat->Option Nat}{fo:List (List (List AV))}{c:Nat}:c∈(a3j aC cp fo).flatMap a0d↔∃j f,fo[j]?=some f∧f≠[]∧c=aC j:=by
 unfold a3j;simp only[f9k];constructor
 ·rintro⟨r,hr,hc⟩
  obtain⟨j,hj⟩:=f7p.1 hr;rw[f4n]at hj;cases hf:fo[j]? with
  |none=>rw[hf]at hj;cases hj
  |some f=>
   rw[hf]at hj;cases hj;simp only[a0d,b38,f1b]at hc;split at hc
   ·simp at hc
   ·rename_i aw;exact⟨j,f,hf,aw,by simpa using hc⟩
 ·rintro⟨j,f,hf,aw,rfl⟩
  refine⟨[slV (aC j) (cp j) f],f7p.2 ⟨j,by rw[f4n,hf];rfl⟩,?_⟩;simp[a0d,b38,aw]
theorem d0p{π:Nat->Option Nat}{b c:Nat}{q:Option Nat}{f:List (List AV)}(h:f≠[]->π b=some c):ren π (slV b q f)=slV c q f:=by
 cases f with
 |nil=>rfl
 |cons a r=>simp only[slV,ren,h (by simp)]
section
variable {m:Nat}{F:Frm}{H H1:a03}{R:Nat->Prop}{π:Nat->Option Nat}{b k:Nat}{aC:Nat->Nat}{cp:Nat->Option Nat}{fo:List (List (List AV))}
theorem Two.ren(hg:Gc m F H R π H1)(h:Two H b k aC cp fo)(hb:R b):∃b' aK,π b=some b'∧Two H1 b' k aK cp fo:=by
 obtain⟨b',a6⟩:=hg.here b hb;have aV:∀(j:Nat) (f:List (List AV)),fo[j]?=some f->f≠[]->π (aC j)=some ((π (aC j)).getD 0):=by intro j f hf aw;have:R (aC j):=hg.closed b hb _ (by rw[h.top];exact a9f.2 ⟨j,f,hf,aw,rfl⟩);obtain⟨c,hc⟩:=hg.here _ this;rw[hc];rfl
 refine⟨b',λj=>(π (aC j)).getD 0,a6,?_,?_,?_,h.flat⟩
 ·rw[hg.heap b b' a6,h.top];simp only[f2k,a0g]
  congr 2
  unfold a3j;apply f4x;intro j;simp only[f1l,f4n];cases hf:fo[j]? with
  |none=>rfl
  |some f=>simp only[f2k,f1a,f1g,d0p (aV j f hf)]
 ·intro j f hf aw;have e:=aV j f hf aw;obtain⟨h1,h2⟩:=h.sub j f hf aw;refine⟨?_,?_⟩
  ·rw[hg.heap _ _ e,h1];simp only[f2k,a0g,a05 π (h.flat f (c11 hf))]
  ·intro he;rw[he]at e;exact h2 (hg.inj _ _ _ e a6)
 ·intro i j f g hf eG aw ec e;have e1:=aV i f hf aw;have e2:=aV j g eG ec;rw[e]at e1;exact h.inj i j f g hf eG aw ec (hg.inj _ _ _ e1 e2)
theorem Two.app(h:Two H b k aC cp fo){j n:Nat}{f:List (List AV)}{x:List AV}(hf:fo[j]?=some f)(hc:cp j=none)(hx:a0d x=[])(hn:H.length<=n)
 (h1:a02 H1 b=some (.row 1 ((a3j aC cp fo).set j [.slice n 0 (f.length+1) none])))(h2:a02 H1 n=some (.row k (f++[x])))
 (h3:∀(i:Nat) (g:List (List AV)),i≠j->fo[i]?=some g->g≠[]->a02 H1 (aC i)=a02 H (aC i)) :
 Two H1 b k (λi=>if i=j then n else aC i) cp (fo.set j (f++[x])):=by
 have bg:j<fo.length:=(f1i.1 hf).1;have ai:∀(i:Nat) (g:List (List AV)),fo[i]?=some g->g≠[]->aC i<H.length:=λi g hg aw=>a1i (h.sub i g hg aw).1;have dm:b<H.length:=a1i h.top;refine⟨?_,?_,?_,?_⟩
 ·rw[h1]
  congr 2
  apply f4x;intro i;unfold a3j;rw[f3a,List.length_mapIdx];by_cases bq:j=i
  ·subst bq;simp only[f7i,bg];rw[f4n,f3a];simp only[f7i,bg,f2k,hc,d5q,b9k]
  ·simp only[f2m bq];rw[f4n,f4n,f3a,f2m bq];simp only[f2m (f9l bq)]
 ·intro i g hg aw;rw[f3a]at hg;by_cases bq:j=i
  ·subst bq;simp only[f7i,bg,Option.some.injEq]at hg;subst hg;simp only[f7i];exact⟨h2,by omega⟩
  ·rw[f2m bq]at hg;simp only[f2m (f9l bq)];rw[h3 i g (f9l bq) hg aw];exact h.sub i g hg aw
 ·intro i i' g g' hg eG aw ec e;rw[f3a]at hg eG;by_cases bq:j=i<;>by_cases fu:j=i'
  ·omega
  ·subst bq;simp only[f2m fu]at eG;simp only[f7i,f2m (f9l fu)]at e;have:=ai i' g' eG ec;omega
  ·subst fu;simp only[f2m bq]at hg;simp only[f7i,f2m (f9l bq)]at e;have:=ai i g hg aw;omega
  ·simp only[f2m bq]at hg;simp only[f2m fu]at eG;simp only[f2m (f9l bq),f2m (f9l fu)]at e;exact h.inj i i' g g' hg eG aw ec e
 ·intro g hg;rcases f8d hg with hg|rfl
  ·exact h.flat g hg
  ·exact(h.flat f (c11 hf)).append (FlatR.cons hx FlatR.nil)
theorem b37{H:a03}:∀(l:List Nat),(∀c∈l,a12 (a02 H c)=[])->(l.map λc=>(a12 (a02 H c)).length).sum=0
 | [],_=>rfl
 |a::l,h=>by simp only[f1a,List.sum_cons,h a (by simp),f1h,b37 l (λc hc=>h c (by simp[hc]))]
theorem Two.gc{keep:List Nat}(h:Two H b k aC cp fo)(hF:a0d ((a2c keep F).map (·.2))=[b]∨a0d ((a2c keep F).map (·.2))=[b,b])(hn:fo.length<900000) :
 ∃π b' aK H1,gcD 0 keep F H=some (c0h π (a2c keep F),H1)∧π b=some b'∧Two H1 b' k aK cp fo:=by
 -- the blocks that aa lead to
 obtain⟨S,hS⟩:∃S,S=b::((List.range fo.length).filter λj=>(fo[j]?).any λf=>!f.isEmpty).map aC:=⟨_,rfl⟩
 have mq:∀c∈((List.range fo.length).filter λj=>(fo[j]?).any λf=>!f.isEmpty).map aC,a12 (a02 H c)=[]:=by
  intro c hc;obtain⟨j,hj,rfl⟩:=f6q.1 hc;rw[f8x]at hj;have bg:j<fo.length:=by simpa using hj.1
  obtain⟨f,hf⟩:∃f,fo[j]?=some f:=⟨_,z9e bg⟩
  have aw:=hj.2;rw[hf]at aw;rw[(h.sub j f hf (λe=>by rw[e]at aw;simp at aw)).1];exact a0p (h.flat f (c11 hf))
 have mZ:((((List.range fo.length).filter λj=>(fo[j]?).any λf=>!f.isEmpty).map aC).map λc=>(a12 (a02 H c)).length).sum=0:=by exact b37 _ mq
 have gd:(a12 (a02 H b)).length<=fo.length:=by
  rw[h.top];show((a3j aC cp fo).flatMap a0d).length<=_;have:∀(l:List (List AV)),(∀r∈l,(a0d r).length<=1)->(l.flatMap a0d).length<=l.length:=by
   intro l
   induction l with
   |nil=>intro _;simp
   |cons r l ih=>intro hl;have h1:=hl r (by simp);have h2:=ih (λr hr=>hl r (by simp[hr]));simp only[f4k,f2n,f1c];omega
  have h2:=this (a3j aC cp fo) (by
   intro r hr;obtain⟨j,hj⟩:=f7p.1 hr;unfold a3j at hj;rw[f4n]at hj;cases hf:fo[j]? with
   |none=>rw[hf]at hj;cases hj
   |some f=>rw[hf]at hj;cases hj;simp only[a0d,b38];split<;>simp)
  rw[a3n]at h2;exact h2
 obtain⟨R,π,H1,g1,g2,_⟩:=d2y (m:=0) (keep:=keep) (F:=F) (H:=H) (f2i _) S (by intro c hc;rcases hF with hF|hF<;>rw[hF]at hc<;>simp at hc<;>subst hc<;>simp[hS]) (λc hc=>absurd hc (f8l c)) (by
  intro c hc d hd;simp only[hS,f4h]at hc;rcases hc with rfl|hc
  ·rw[h.top]at hd;obtain⟨j,f,hf,aw,rfl⟩:=a9f.1 hd;simp only[hS,f4h];refine .inr (f6q.2 ⟨j,f8x.2 ⟨by simpa using(f1i.1 hf).1,?_⟩,rfl⟩);rw[hf];cases f with|nil=>exact absurd rfl aw|cons=>rfl
  ·rw[mq c hc]at hd;simp at hd) (by
  have hl:(a0d ((a2c keep F).map (·.2))).length<=2:=by rcases hF with hF|hF<;>rw[hF]<;>simp
  simp only[hS,f1a,List.sum_cons,mZ,f2j,f7t,f1h];omega)
 obtain⟨b',aK,e1,e2⟩:=h.ren g2 (g2.refs b (by rcases hF with hF|hF<;>rw[hF]<;>simp));exact⟨π,b',aK,H1,g1,e1,e2⟩
theorem Two.clip(h:Two H b k aC cp fo){j c:Nat}{f:List (List AV)}(hf:fo[j]?=some f)(h1:a02 H1 b=some (.row 1 ((a3j aC cp fo).set j [slV (aC j) (some c) f])))
 (h3:∀c,c≠b->a02 H1 c=a02 H c):Two H1 b k aC (λi=>if i=j then some c else cp i) fo:=by
 have bg:j<fo.length:=(f1i.1 hf).1;refine⟨?_,λi g hg aw=>?_,h.inj,h.flat⟩
 ·rw[h1]
  congr 2
  apply f4x;intro i;unfold a3j;rw[f3a,List.length_mapIdx];by_cases bq:j=i
  ·subst bq;simp only[f7i,bg];rw[f4n,hf];simp
  ·simp only[f2m bq];rw[f4n,f4n];simp only[f2m (f9l bq)]
 ·obtain⟨g1,g2⟩:=h.sub i g hg aw;rw[h3 _ g2];exact⟨g1,g2⟩
def slF(c:Option Nat):List (List AV)->AV|[]=>.nilslice|r::rs=>.islice (r::rs) c
theorem Two.frz(h:Two H b k aC cp fo)(c:Option Nat):a36 0 true (a3k (a02 H) 0 12) (.slice b 0 fo.length c)=some (.islice (fo.mapIdx λj f=>[slF (cp j) f]) c):=by
 have key:∀(aa:List (List AV)) (out:List (List AV)),aa.length=out.length->(∀(j:Nat) r o,aa[j]?=some r->out[j]?=some o->a5r 0 false (a3k (a02 H) 0 11) r=some o)->a9t 0 (a3k (a02 H) 0 11) aa=some out:=by
  intro aa
  induction aa with
  |nil=>intro out hl _;cases out with|nil=>rfl|cons=>simp at hl
  |cons r aa ih=>
   intro out hl hh;cases out with
   |nil=>simp at hl
   |cons o out=>rw[b5e,hh 0 r o rfl rfl];simp only[a0j];rw[ih out (by simpa using hl) (λj r o hr ho=>hh (j+1) r o (by simpa using hr) (by simpa using ho))]
 have wg:∀x,a3k (a02 H) 0 12 x=a3k (a02 H) 0 (11+1) x:=λ_=>rfl;rw[a46,f6w (f8l b),f4i,a3g (eq_true (by omega:0<12)),h.top];simp only[a9g,a0j,a3n,f6s,f2u];rw[f4m (f2q _),f2v,<-a3n aC cp fo,f6p];rw[key (a3j aC cp fo) (fo.mapIdx λj f=>[slF (cp j) f]) (by rw[a3n];simp)];intro j r o hr ho;rw[f4n]at ho;cases hf:fo[j]? with
 |none=>rw[hf]at ho;cases ho
 |some f=>
  rw[hf]at ho;rw[a6g hf]at hr;cases ho;cases hr;rw[a3r,b9o];cases f with
  |nil=>rfl
  |cons x xs=>obtain⟨g1,_⟩:=h.sub j _ hf (by simp);have bh:=h.flat _ (c11 hf);simp only[slV,slF];rw[a46,f6w (f8l _),f4i,a3g (eq_true (by omega:0<11)),g1];simp only[a9g,a0j,f6s,f2u];rw[f4m (by simp),f2v];have:List.take (xs.length+1) (x::xs)=x::xs:=f6p (l:=x::xs);rw[this,a0z _ _ bh]
end
theorem Two.more{H L:a03}{b k:Nat}{aC:Nat->Nat}{cp:Nat->Option Nat}{fo:List (List (List AV))}(h:Two H b k aC cp fo):Two (H++L) b k aC cp fo:=by
 have hl:∀{c:Nat} {o:AObj},a02 H c=some o->a02 (H++L) c=some o:=λhc=>by rw[a3y (eq_true (a1i hc))];exact hc
 exact⟨hl h.top,λj f hf aw=>⟨hl (h.sub j f hf aw).1,(h.sub j f hf aw).2⟩,h.inj,h.flat⟩
theorem b5a{H L:a03}{a:Nat}{o:Option AObj}(i:Nat):a02 (H.set a o++L) (H.length+i)=a02 L i:=by
 have:=a5l (H:=H.set a o) (L:=L) i
 rwa [f4q]at this
theorem a5p{H L:a03}{a c:Nat}{o:Option AObj}(hc:c<H.length):a02 (H.set a o++L) c=if a=c then o else a02 H c:=by
 rw[a3y (eq_true (by rw[f4q];exact hc)),b59];by_cases h:a=c
 ·subst h;simp[hc]
 ·simp[h]
section
variable {H:a03}{b k:Nat}{aC:Nat->Nat}{cp:Nat->Option Nat}{fo:List (List (List AV))}{j:Nat}{x:List AV}{o:Option AObj}
theorem Two.app1(h:Two H b k aC cp fo)(hf:fo[j]?=some [])(hc:cp j=none)(hx:a0d x=[]) :
 Two (H.set b (some (.row 1 ((a3j aC cp fo).set j [.slice (H.length+1) 0 1 none])))++[o,some (.row k [x])]) b k (λi=>if i=j then H.length+1 else aC i) cp (fo.set j [x]):=by
 have dm:=a1i h.top;refine h.app hf hc hx (by omega) ?_ ?_ ?_
 ·rw[a5p dm,f2w rfl];rfl
 ·rw[b5a];rfl
 ·intro i g bq hg aw;obtain⟨g1,g2⟩:=h.sub i g hg aw;rw[a5p (a1i g1),f2m (f9l g2)]
theorem Two.app2{a:List AV}{r:List (List AV)}(h:Two H b k aC cp fo)(hf:fo[j]?=some (a::r))(hc:cp j=none)(hx:a0d x=[]) :
 Two ((H.set (aC j) none).set b (some (.row 1 ((a3j aC cp fo).set j [.slice (H.length+1) 0 (r.length+1+1) none])))++[o,some (.row k (a::(r++[x])))]) b k (λi=>if i=j then H.length+1 else aC i) cp (fo.set j (a::r++[x])):=by
 have dm:=a1i h.top;have a7:(H.set (aC j) none).length=H.length:=f4q;refine h.app hf hc hx (by omega) ?_ ?_ ?_
 ·rw[a5p (by rw[a7];exact dm),f2w rfl];rfl
 ·have:=b5a (H:=H.set (aC j) none) (L:=[o,some (.row k (a::(r++[x])))]) (a:=b) (o:=some (.row 1 ((a3j aC cp fo).set j [.slice (H.length+1) 0 (r.length+1+1) none]))) 1;rw[a7]at this;rw[this];rfl
 ·intro i g bq hg aw;obtain⟨g1,g2⟩:=h.sub i g hg aw;rw[a5p (by rw[a7];exact a1i g1),f2m (f9l g2),a6v];intro e;exact bq (h.inj i j g (a::r) hg hf aw (by simp) e.symm)
end
theorem a2z{keep:List Nat}{F:Frm}{H:a03}{b k:Nat}{aC:Nat->Nat}{cp:Nat->Option Nat}{fo:List (List (List AV))}{P:Frm->a03->Prop}(h:Two H b k aC cp fo)(hF:a0d ((a2c keep F).map (·.2))=[b]∨a0d ((a2c keep F).map (·.2))=[b,b])(hn:fo.length<900000)
 (hP:∀π b' aK H1,π b=some b'->Two H1 b' k aK cp fo->P (c0h π (a2c keep F)) H1):∃F1 H1,gcD 0 keep F H=some (F1,H1)∧P F1 H1:=by
 obtain⟨π,b',aK,H1,g1,g2,g3⟩:=h.gc hF hn;exact⟨_,H1,g1,hP π b' aK H1 g2 g3⟩
def fqE(E:Env)(g:FuncId)(m:Nat)(results:List ResultVar)(P:AV×a03->Prop):b02:=λe F H=>match e with|.exit _=>False|_=>∃vs r,a1c E F H results=some vs∧a22 (E.thaw g) m (a6l vs) H=some r∧P r
theorem a44{E:Env}{g:FuncId}{m:Nat}{results:List ResultVar}{P:AV×a03->Prop}{F:Frm}{H:a03}{vs:List AV}{r:AV×a03}(h1:a1c E F H results=some vs)(h2:a22 (E.thaw g) m (a6l vs) H=some r)(h3:P r):fqE E g m results P .ret F H:=⟨vs,r,h1,h2,h3⟩
theorem b6h{E:Env}{g:FuncId}{m:Nat}{results:List ResultVar}{P:AV×a03->Prop}{F:Frm}{H:a03}{vs:List AV}{r:AV×a03}(h1:a1c E F H results=some vs)(h2:a22 (E.thaw g) m (a6l vs) H=some r)(h3:P r):fqE E g m results P .normal F H:=⟨vs,r,h1,h2,h3⟩
theorem e0m{E:Env}{M:List Fact}{g:FuncId}{args:List AV}{H:a03}{code:Code}{N:Nat}{results:List ResultVar}{P:AV×a03->Prop}
 (bE:E.fn g=some ⟨code,N,results⟩)(cR:∀y∈M,y.g≠g)(hN:Nat.ble args.length N=true){m:Nat}(hm:H.length=m)(h:Wp (cx E M m N g 0) code (a3t 0 args) H (fqE E g m results P))(hp:E.prim g args=none:=by rfl)(hz:E.zf g=false:=by rfl)(hw:E.raw g=false:=by rfl):∃r,P r∧sem E M g args H=some r:=by
 subst hm;obtain⟨e,F',H',h1,h2⟩:=c0n _ h;cases e with
 |normal=>obtain⟨vs,⟨v,H2⟩,h3,h4,h5⟩:=h2;exact⟨_,h5,c55 bE cR hN h1 (λ_ h=>by cases h) h3 h4 hp hz hw⟩
 |ret=>obtain⟨vs,⟨v,H2⟩,h3,h4,h5⟩:=h2;exact⟨_,h5,c55 bE cR hN h1 (λ_ h=>by cases h) h3 h4 hp hz hw⟩
 |exit id=>exact h2.elim
theorem svE{E:Env}{M:List Fact}{g:FuncId}{args:List AV}{H:a03}{P:AV×a03->Prop}(f:Func)(h:Wp (cx E M H.length f.ntmps g 0) (f.body.getD .skip) (a3t 0 args) H (fqE E g H.length f.results.toList P))(bE:E.fn g=some ⟨f.body.getD .skip,f.ntmps,f.results.toList⟩:=by kernel_rfl)
 (cR:(M.all λy=>!Nat.beq y.g g)=true:=by rfl)(hN:Nat.ble args.length f.ntmps=true:=by rfl)(hp:E.prim g args=none:=by rfl)(hz:E.zf g=false:=by rfl)(hw:E.raw g=false:=by rfl):∃r,P r∧sem E M g args H=some r:=e0m bE (λy hy e=>by
 have:=f4l.1 cR y hy;rw[e]at this;simp at this) hN rfl h hp hz hw
end Go.Ax
/- AxCall3: calls over two blocks, which they may write. -/
namespace Go.Ax
theorem a8p{σ:List Nat}{n:Nat}{H1:a03}:∀(s:Nat) (H:a03) (i:Nat),(a1h σ n H1 s H)[i]?=(H[i]?).map λo=>match σ.idxOf? (s+i)with|some j=>(a02 H1 j).map (a0g (a1d σ n))|none=>o
 |s,[],i=>by simp[a1h]
 |s,o::H,0=>by simp[a1h];rfl
 |s,o::H,i+1=>by simp only[a1h,f4r,a8p (s+1) H i];rw[show s+1+i=s+(i+1) by omega]
theorem d14{H:a03}{a b:Nat}(cP:a≠b)(ha:a12 (a02 H a)=[])(hb:a12 (a02 H b)=[]):a24 H 1000000 [a,b] []=[a,b]:=by
 have e:a24 H (999996+4) [a,b] []=[a,b]:=by
  unfold a24;simp only[a18,f4i,ha,f1e];unfold a24;have h1:a18 [a] b=false:=by
   cases hc:a18 [a] b with
   |false=>rfl
   |true=>exact absurd (by simpa using a2p.1 hc) (f9l cP)
  simp only[h1,f4i,hb,f1e];unfold a24;rfl
 exact e
theorem b5v{E:Env}{ah:Bool}{call:CallF}{g:FuncId}{fs cs ar args:List AV}{H:a03}{v v':AV}{a b:Nat}{o1 o2 p1 p2:AObj}(hx:E.ext g=false)(hf:(E.fn g).isSome=true)(he:fs++ar++cs=args)
 (cP:a≠b)(ha:a02 H a=some o1)(hb:a02 H b=some o2)(dM:a12 (some o1)=[])(iH:a12 (some o2)=[])(lM:FlatO (some o1))(kV:FlatO (some o2))(aJ:a0d args=[a,b])
 {au:List AV}(i8:args.map (ren (a78 [a,b]))=au)(hr:call g au [some o1,some o2]=some (v,[some p1,some p2]))(dw:FlatO (some p1))(cB:FlatO (some p2))(hv:ren (a1d [a,b] H.length) v=v') :
 a20 E ah call (.func (.func g) fs cs) ar H=some (v',(H.set a (some p1)).set b (some p2),[a,b]):=by
 have l1:=a1i ha;have l2:=a1i hb;have hn:a54 [a,b]=true:=b0v (by simp[cP]);have hc:=a1v (call g) args H (σ:=[a,b]) (by rw[aJ];exact d14 cP (by rw[ha];exact dM) (by rw[hb];exact iH)) hn (by simp[l1,l2]) i8 (H0:=[some o1,some o2])
  (by simp only[a4q,f1a,f1g,ha,hb];rw[lM,kV]) hr
 have eZ:a1h [a,b] H.length [some p1,some p2] 0 H=(H.set a (some p1)).set b (some p2):=by
  apply f4x;intro i;rw[a8p,f3a,f3a,f4q,f2u];by_cases lJ:a=i
  ·subst lJ;have e:([a,b]:List Nat).idxOf? a=some 0:=by simp[f7e]
   rw[z9e l1];simp only[f2k,e,f2m (f9l cP),f7i,l1]
   congr 1
   exact dw _
  ·by_cases jD:b=i
   ·subst jD;have e:([a,b]:List Nat).idxOf? b=some 1:=by simp[f7e,cP]
    rw[z9e l2];simp only[f2k,e,f7i,l2]
    congr 1
    exact cB _
   ·have e:([a,b]:List Nat).idxOf? i=none:=by simp[f7e,lJ,jD]
    rw[f2m jD,f2m lJ];cases H[i]? with
    |none=>rfl
    |some o=>simp only[f2k,e]
 rw[hv,eZ]at hc;simp only[List.drop_succ_cons,f6s,f1g,f1b,f1c,f1h]at hc;exact a63 hx hf he hc (by simp)
theorem c3q(a b o l:Nat)(c:Option Nat):ren (a78 [a,b]) (.slice a o l c) = .slice 0 o l c:=by simp[ren,a78,f7e]
theorem d0z{a b:Nat}(h:a≠b)(i o:Nat):ren (a78 [a,b]) (.ptr b i o) = .ptr 1 i o:=by simp[ren,a78,f7e,h]
end Go.Ax
/- AxLd: lent calls in the walks. -/
namespace Go.Ax
theorem a69{E:Env}{ah:Bool}{call:CallF}{g:FuncId}{fs cs as args au:List AV}{H H1:a03}{v v':AV}(hx:E.ext g=true)(hf:(E.fn g).isSome=true)(he:fs++as++cs=args)(h1:a5r 0 false (a3k (a02 H) 0 12) args=some au)(hr:call g au []=some (v,H1))(hn:noI v=true)(hv:a36 0 false (a3k (a6x H1) 0 12) v=some v') :
 a20 E ah call (.func (.func g) fs cs) as H=some (v',H,List.range H.length):=by
 simp only[a20,hx,hf,he,f2v,a8t,h1,hr,hn,hv]
end Go.Ax
/- AxTab: a table of rows of words in blocks, wherever they lie; heads of loops and calls over it. -/
namespace Go.Ax
structure Mv(H:a03)(R:Nat->Prop)(π:Nat->Option Nat)(H1:a03):Prop where
 inj:∀a b c,π a=some c->π b=some c->a=b
 closed:∀b,R b->∀c∈a12 (a02 H b),R c
 here:∀b,R b->∃c,π b=some c
 heap:∀b c,R b->π b=some c->a02 H1 c=(a02 H b).map (a0g π)
theorem Gc.mv{m:Nat}{F:Frm}{H H1:a03}{R:Nat->Prop}{π:Nat->Option Nat}(g:Gc m F H R π H1):Mv H R π H1:=⟨g.inj,g.closed,g.here,λb c _ h=>g.heap b c h⟩
section
variable {H H1:a03}{R:Nat->Prop}{π:Nat->Option Nat}{a b q:Nat}{aC:Nat->Nat}{w:Nat}{fo:List (List (BitVec 64))}{fr:Int}
end
/-! ### calls, wherever the blocks lie -/
end Go.Ax
/- AxTab2: a table that a call has been given: heads of loops and calls that write it. -/
namespace Go.Ax
section
variable {H H1:a03}{a b q:Nat}{aC:Nat->Nat}{w:Nat}{fo:List (List (BitVec 64))}{fr:Int}
mutual
theorem b4a{m:Nat}{π:Nat->Option Nat}(hπ:∀c,c<m->π c=some c):∀(v:AV),(∀c∈refs v,c<m)->ren π v=v
 |.ptr b i o,h=>by simp only[ren,hπ b (h b (by simp[refs]))]
 |.slice b o l c,h=>by simp only[ren,hπ b (h b (by simp[refs]))]
 |.map b,h=>by simp only[ren,hπ b (h b (by simp[refs]))]
 |.yfn b,h=>by simp only[ren,hπ b (h b (by simp[refs]))]
 |.func fn fs cs,h=>by simp only[refs,f4s]at h;simp only[ren,a66 hπ fs (λc hc=>h c (.inl hc)),a66 hπ cs (λc hc=>h c (.inr hc))]
 |.iface t x,h=>by simp only[refs]at h;simp only[ren,b4a hπ x h]
 |.agg cs,h=>by simp only[refs]at h;simp only[ren,a66 hπ cs h]
 |.tuple cs,h=>by simp only[refs]at h;simp only[ren,a66 hπ cs h]
 |.junk,_|.bool _,_|.int ..,_|.str _,_|.nilptr,_|.nilslice,_|.nilmap,_|.nilfunc,_|.nilifc,_|.iptr _,_|.islice ..,_|.imap ..,_|.iset _,_=>rfl
theorem a66{m:Nat}{π:Nat->Option Nat}(hπ:∀c,c<m->π c=some c):∀(l:List AV),(∀c∈a0d l,c<m)->c0g π l=l
 | [],_=>rfl
 |v::vs,h=>by simp only[a0d,f4s]at h;simp only[c0g,b4a hπ v (λc hc=>h c (.inl hc)),a66 hπ vs (λc hc=>h c (.inr hc))]
end
theorem a9h{m:Nat}{π:Nat->Option Nat}(hπ:∀c,c<m->π c=some c)(l:List AV)(h:∀c∈a0d l,c<m):l.map (ren π)=l:=by rw[<-a7o];exact a66 hπ l h
theorem c7q{m:Nat}{π:Nat->Option Nat}(hπ:∀c,c<m->π c=some c)(o:AObj)(h:∀c∈a12 (some o),c<m):a0g π o=o:=by
 cases o with
 |row k aa=>
  simp only[a0g]
  congr 1
  conv=>rhs;rw[<-List.map_id aa]
  refine f4y λr hr=>?_;refine a9h hπ r λe he=>h e ?_;simp only[a12,f9k];exact⟨r,hr,he⟩
 |map ks vs bs cl=>simp only[a0g];rw[a9h hπ ks (λe he=>h e (by simp[a12,he])),a9h hπ vs (λe he=>h e (by simp[a12,he]))]
 |siter s p=>rfl
 |uset ks=>rfl
 |miter ks dC dK=>rfl
 |yloop y Fy st=>
  simp only[a0g]
  congr 1
  conv=>rhs;rw[<-List.map_id Fy]
  refine f4y λx hx=>?_;rw[b4a hπ x.2 λc hc=>h c (d12 hx hc)];rfl
theorem b72{m:Nat}{π:Nat->Option Nat}(hπ:∀c,c<m->π c=some c):∀F:Frm,(∀c∈a0d (F.map (·.2)),c<m)->c0h π F=F
 | [],_=>rfl
 |(s,v)::F,h=>by simp only[f1a,a0d,f4s]at h;have:=a9h hπ [v] (by simp only[a0d,f1b];exact λc hc=>h c (.inl hc));simp only[f1a,f1g,List.cons.injEq,f8s]at this;rw[d10,this,b72 hπ F (λc hc=>h c (.inr hc))]
end
theorem b2j(a b:List AV):a0d (a++b)=a0d a++a0d b:=by
 induction a with
 |nil=>rfl
 |cons v a ih=>simp only[f2o,a0d,ih,e12]
end Go.Ax
/- AxLow: a loop's head over blocks that all stood before the call and refer to nothing. -/
namespace Go.Ax
theorem d77{H H1:a03}(hl:H1.length=H.length)(h:∀b,b<H.length->a02 H1 b=a02 H b):H1=H:=by apply List.ext_getElem hl;intro b h1 h2;have:=h b h2;unfold a02 at this;rw[z9e h1,z9e h2]at this;exact this
theorem e6y{keep:List Nat}{F F':Frm}{H:a03}(hk:a2c keep F=F')(hF:∀b∈a0d (F'.map (·.2)),b<H.length)(hn:(a0d (F'.map (·.2))).length<1000)(hH:∀b,a12 (a02 H b)=[]):gcD H.length keep F H=some (F',H):=by
 subst hk;have mZ:((List.range H.length).map λb=>(a12 (a02 H b)).length).sum=0:=by
  have:((List.range H.length).map λb=>(a12 (a02 H b)).length)=List.replicate H.length 0:=by rw[<-f3b (n:=H.length),<-List.map_const',f3b];exact f4y λb _=>by rw[hH];rfl
  rw[this];simp
 have bh:(H.take H.length).flatMap a12=[]:=by rw[f6p,List.flatMap_eq_nil_iff];intro o ho;obtain⟨b,hb⟩:=f7p.1 ho;have:=hH b;unfold a02 at this;rw[hb]at this;exact this
 obtain⟨R,π,H1,h1,hg,hl⟩:=d2y (m:=H.length) (keep:=keep) (F:=F) (H:=H) (f2q _) (List.range H.length) (λb hb=>f7n.2 (hF b hb)) (λb _ c hc=>by rw[hH]at hc;simp at hc) (λb _ c hc=>by rw[hH]at hc;simp at hc) (by rw[mZ,bh];simp only[f1h];omega);have ak:H1.length=H.length:=by have:=hg.len [] (λb hR hb=>by have:=hg.least (λb=>b<H.length) hF (λb _ c hc=>by rw[hH]at hc;simp at hc) (λb _ c hc=>by rw[hH]at hc;simp at hc) b hR;omega);simp only[f1h,f8z]at this;omega
 rw[h1,b72 hg.low _ hF];have:H1=H:=d77 ak λb hb=>by
  rw[hg.heap b b (hg.low b hb)];cases ho:a02 H b with
  |none=>rfl
  |some o=>have h2:=hH b;rw[ho]at h2;simp only[f2k];rw[c7q hg.low o (λc hc=>by rw[h2]at hc;simp at hc)]
 rw[this]
end Go.Ax
/- AxGw: a flat block and a slice of rows that grow together. -/
namespace Go.Ax
section
variable {H H1:a03}{R:Nat->Prop}{π:Nat->Option Nat}{w b k:Nat}{aC:Nat->Nat}{cp:Nat->Option Nat}{ws:List (List AV)}{fo:List (List (List AV))}
theorem Two.mv(hg:Mv H R π H1)(h:Two H b k aC cp fo)(hb:R b):∃b' aK,π b=some b'∧Two H1 b' k aK cp fo∧∀(j:Nat) (f:List (List AV)),fo[j]?=some f->f≠[]->π (aC j)=some (aK j):=by
 obtain⟨b',a6⟩:=hg.here b hb;have hR:∀(j:Nat) (f:List (List AV)),fo[j]?=some f->f≠[]->R (aC j):=λj f hf aw=>hg.closed b hb _ (by rw[h.top];exact a9f.2 ⟨j,f,hf,aw,rfl⟩);have aV:∀(j:Nat) (f:List (List AV)),fo[j]?=some f->f≠[]->π (aC j)=some ((π (aC j)).getD 0):=by intro j f hf aw;obtain⟨c,hc⟩:=hg.here _ (hR j f hf aw);rw[hc];rfl
 refine⟨b',λj=>(π (aC j)).getD 0,a6,⟨?_,?_,?_,h.flat⟩,aV⟩
 ·rw[hg.heap b b' hb a6,h.top];simp only[f2k,a0g]
  congr 2
  unfold a3j;apply f4x;intro j;simp only[f1l,f4n];cases hf:fo[j]? with
  |none=>rfl
  |some f=>simp only[f2k,f1a,f1g,d0p (aV j f hf)]
 ·intro j f hf aw;have e:=aV j f hf aw;obtain⟨h1,h2⟩:=h.sub j f hf aw;refine⟨?_,?_⟩
  ·rw[hg.heap _ _ (hR j f hf aw) e,h1];simp only[f2k,a0g,a05 π (h.flat f (c11 hf))]
  ·intro he;rw[he]at e;exact h2 (hg.inj _ _ _ e a6)
 ·intro i j f g hf eG aw ec e;have e1:=aV i f hf aw;have e2:=aV j g eG ec;rw[e]at e1;exact h.inj i j f g hf eG aw ec (hg.inj _ _ _ e1 e2)
def b69(b:Nat)(aC:Nat->Nat)(fo:List (List (List AV))):List Nat:=b::((List.range fo.length).filter λj=>(fo[j]?).any λf=>!f.isEmpty).map aC
theorem d00{j:Nat}{f:List (List AV)}(hf:fo[j]?=some f)(aw:f≠[]):aC j∈b69 b aC fo:=by unfold b69;refine f6r _ (f6q.2 ⟨j,f8x.2 ⟨by simpa using(f1i.1 hf).1,?_⟩,rfl⟩);rw[hf];cases f with|nil=>exact absurd rfl aw|cons=>rfl
theorem d01{c:Nat}(h:c∈b69 b aC fo):c=b∨∃j f,fo[j]?=some f∧f≠[]∧c=aC j:=by
 unfold b69 at h;rcases f4h.1 h with h|h
 ·exact .inl h
 ·obtain⟨j,hj,rfl⟩:=f6q.1 h;rw[f8x]at hj;obtain⟨f,hf⟩:∃f,fo[j]?=some f:=⟨_,z9e (by simpa using hj.1)⟩
  have:=hj.2;rw[hf]at this;exact .inr ⟨j,f,hf,by intro e;rw[e]at this;simp at this,rfl⟩
theorem Two.closed(h:Two H b k aC cp fo):∀c∈b69 b aC fo,∀d∈a12 (a02 H c),d∈b69 b aC fo:=by
 intro c hc d hd;rcases d01 hc with rfl|⟨j,f,hf,aw,rfl⟩
 ·rw[h.top]at hd;obtain⟨j,f,hf,aw,rfl⟩:=a9f.1 hd;exact d00 hf aw
 ·rw[(h.sub j f hf aw).1,a0p (h.flat f (c11 hf))]at hd;simp at hd
theorem Two.cost(h:Two H b k aC cp fo):((b69 b aC fo).map λc=>(a12 (a02 H c)).length).sum<=fo.length:=by
 have hz:((((List.range fo.length).filter λj=>(fo[j]?).any λf=>!f.isEmpty).map aC).map λc=>(a12 (a02 H c)).length).sum=0:=b37 _ (by
  intro c hc;obtain⟨j,hj,rfl⟩:=f6q.1 hc;rw[f8x]at hj;obtain⟨f,hf⟩:∃f,fo[j]?=some f:=⟨_,z9e (by simpa using hj.1)⟩
  have:=hj.2;rw[hf]at this;rw[(h.sub j f hf (by intro e;rw[e]at this;simp at this)).1];exact a0p (h.flat f (c11 hf)))
 unfold b69;rw[f1a,List.sum_cons,hz,f8z,h.top];show((a3j aC cp fo).flatMap a0d).length<=_;have:∀(l:List (List AV)),(∀r∈l,(a0d r).length<=1)->(l.flatMap a0d).length<=l.length:=by
  intro l
  induction l with
  |nil=>intro _;simp
  |cons r l ih=>intro hl;have h1:=hl r (by simp);have h2:=ih (λr hr=>hl r (by simp[hr]));simp only[f4k,f2n,f1c];omega
 have h2:=this (a3j aC cp fo) (by
  intro r hr;obtain⟨j,hj⟩:=f7p.1 hr;unfold a3j at hj;rw[f4n]at hj;cases hf:fo[j]? with
  |none=>rw[hf]at hj;cases hj
  |some f=>rw[hf]at hj;cases hj;simp only[a0d,b38];split<;>simp)
 rw[a3n]at h2;exact h2
end
end Go.Ax
/- AxTwX: a slice of growing slices beside flat blocks: a loop's head. -/
namespace Go.Ax
section
variable {H:a03}{b k:Nat}{aC:Nat->Nat}{cp:Nat->Option Nat}{fo:List (List (List AV))}
theorem Two.headX{keep:List Nat}{F:Frm}{P:Frm->a03->Prop}(h:Two H b k aC cp fo)(X:List Nat)(hX:∀x∈X,a12 (a02 H x)=[])(hF:∀c∈a0d ((a2c keep F).map (·.2)),c∈X∨c=b)(hb:b∈a0d ((a2c keep F).map (·.2)))(bw:∀x∈X,x∈a0d ((a2c keep F).map (·.2)))(hl:(a0d ((a2c keep F).map (·.2))).length<=10)(hn:fo.length<900000)
 (hP:∀π b' aK H1,π b=some b'->Two H1 b' k aK cp fo->(∀x∈X,∃x',π x=some x'∧a02 H1 x'=(a02 H x).map (a0g π))->P (c0h π (a2c keep F)) H1):∃F1 H1,gcD 0 keep F H=some (F1,H1)∧P F1 H1:=by
 have tM:=h.cost;have vm:(X.map λb=>(a12 (a02 H b)).length).sum=0:=b37 _ λb hb=>by rw[hX b hb]
 obtain⟨R,π,H1,g1,g2,_⟩:=d2y (m:=0) (keep:=keep) (F:=F) (H:=H) (f2i _) (X++b69 b aC fo) (λc hc=>by
  rcases hF c hc with h|rfl
  ·exact List.mem_append_left _ h
  ·exact List.mem_append_right _ (by simp[b69])) (λc hc=>absurd hc (f8l c)) (by
  intro c hc d hd;rcases f4s.1 hc with hc|hc
  ·rw[hX c hc]at hd;cases hd
  ·exact List.mem_append_right _ (h.closed c hc d hd)) (by
  simp only[f2t,List.sum_append,vm,f2j,f7t,f1h];omega)
 have hm:=g2.mv;obtain⟨b',aK,e1,e2,e3⟩:=h.mv hm (g2.refs b hb);refine⟨_,H1,g1,hP π b' aK H1 e1 e2 λx hx=>?_⟩;obtain⟨x',ex⟩:=g2.here x (g2.refs x (bw x hx));exact⟨x',ex,g2.heap x x' ex⟩
theorem Two.apart(h:Two H b k aC cp fo){d q:Nat}{aa:List (List AV)}(hd:a02 H d=some (.row q aa))(hq:q≠1)(hk:q≠k):d≠b∧∀j f,fo[j]?=some f->f≠[]->d≠aC j:=by
 refine⟨λe=>?_,λj f hf aw e=>?_⟩
 ·rw[e,h.top]at hd;cases hd;exact hq rfl
 ·rw[e,(h.sub j f hf aw).1]at hd;cases hd;exact hk rfl
end
end Go.Ax
/- AxTwY: a slice of slices: a new slice in an empty place; the numbers that a loop's head gives to the first blocks. -/
namespace Go.Ax
theorem b4d(H:a03):∀(n:Nat) (todo aP:List Nat),∃t,a24 H n todo aP=aP.reverse++t
 |0,_,aP=>⟨[],by simp[a24]⟩
 |n+1,[],aP=>⟨[],by simp[a24]⟩
 |n+1,b::todo,aP=>by
  unfold a24;cases a18 aP b with
  |true=>exact b4d H n todo aP
  |false=>obtain⟨t,ht⟩:=b4d H n (a12 (a02 H b)++todo) (b::aP);exact⟨b::t,by simp only[f4i];rw[ht];simp⟩
theorem c3s{H:a03}{n c p b:Nat}(hc:a12 (a02 H c)=[])(hp:a12 (a02 H p)=[])(h1:c≠p)(h2:c≠b)(h3:p≠b):∃t,a24 H (n+3) [c,p,b] []=[c,p,b]++t:=by
 have e1:a24 H (n+3) [c,p,b] []=a24 H (n+2) (a12 (a02 H c)++[p,b]) [c]:=by show(bif a18 [] c then _ else _)=_;rfl
 have k1:a18 [c] p=false:=by
  cases h:a18 [c] p with
  |false=>rfl
  |true=>have:=a2p.1 h;simp at this;exact absurd this.symm h1
 have e2:a24 H (n+2) [p,b] [c]=a24 H (n+1) (a12 (a02 H p)++[b]) [p,c]:=by show(bif a18 [c] p then _ else _)=_;rw[k1];rfl
 have k2:a18 [p,c] b=false:=by
  cases h:a18 [p,c] b with
  |false=>rfl
  |true=>
   have:=a2p.1 h;simp only[f4h,g0k,or_false]at this;rcases this with e|e
   ·exact absurd e.symm h3
   ·exact absurd e.symm h2
 have e3:a24 H (n+1) [b] [p,c]=a24 H n (a12 (a02 H b)++[]) [b,p,c]:=by show(bif a18 [p,c] b then _ else _)=_;rw[k2];rfl
 rw[e1,hc,f1e,e2,hp,f1e,e3];obtain⟨t,ht⟩:=b4d H n (a12 (a02 H b)++[]) [b,p,c];exact⟨t,by rw[ht];simp⟩
theorem d30{keep:List Nat}{F F1:Frm}{H H1:a03}(h:gcD 0 keep F H=some (F1,H1)){c p b:Nat}(hr:a0d ((a2c keep F).map (·.2))=[c,p,b])(hc:a12 (a02 H c)=[])(hp:a12 (a02 H p)=[])(h1:c≠p)(h2:c≠b)(h3:p≠b) :
 ∃π:Nat->Option Nat,F1=c0h π (a2c keep F)∧π c=some 0∧π p=some 1∧π b=some 2:=by
 obtain⟨_,e,_⟩:=c48 h;refine⟨_,e.symm,?_⟩;obtain⟨t,ht⟩:=c3s (n:=a3o-3) hc hp h1 h2 h3;have hi:a9s 0 (a2c keep F) H=[c,p,b]++t.filter (λb=>Nat.ble 0 b):=by unfold a9s;rw[hr];simp only[f2j,f7t,f1e];rw[show a3o=a3o-3+3 from rfl,ht,List.filter_append];rfl
 have key:∀(x i:Nat),([c,p,b]++t.filter (λb=>Nat.ble 0 b)).idxOf? x=some i->b6g 0 (a9s 0 (a2c keep F) H) x=some i:=by intro x i hx;unfold b6g;rw[show Nat.blt x 0=false from rfl,f4i,hi,hx];simp
 have aw:∀{x y:Nat},x≠y->(x==y)=false:=λh=>f6o.2 h;refine⟨key c 0 ?_,key p 1 ?_,key b 2 ?_⟩
 ·simp[f7e]
 ·simp[f7e,aw h1]
 ·simp[f7e,aw h2,aw h3]
theorem b9j{H:a03}{b:Nat}{o:AObj}(h:a02 H b=some o):H[b]?=some (some o):=by
 unfold a02 at h;cases hx:H[b]? with
 |none=>rw[hx]at h;cases h
 |some y=>rw[hx]at h;simp only[f8r]at h;rw[h]
theorem c7b{H:a03}{a b c:AObj}(h0:a02 H 0=some a)(h1:a02 H 1=some b)(h2:a02 H 2=some c):H.take 3=[some a,some b,some c]:=by
 have g0:=b9j h0;have g1:=b9j h1;have g2:=b9j h2
 match H,g0,g1,g2 with
 |x0::x1::x2::r,g0,g1,g2=>simp at g0 g1 g2;subst g0;subst g1;subst g2;rfl
theorem a2o{m:Nat}{d:AV->Option AV}:∀{aa:List (List AV)},FlatR aa->frzT m d aa=some aa
 | [],_=>rfl
 |r::aa,h=>by have h1:a5r m true d r=some r:=a6m _ _ _ _ (h r (f7l ..));have h2:frzT m d aa=some aa:=a2o λx hx=>h x (f6r _ hx);simp only[frzT,h1,h2]
section
variable {H H1:a03}{b k:Nat}{aC:Nat->Nat}{cp:Nat->Option Nat}{fo:List (List (List AV))}
theorem Two.put(h:Two H b k aC cp fo){j n:Nat}{f:List (List AV)}(hf:fo[j]?=some [])(aw:f≠[])(hx:FlatR f)(hn:H.length<=n)
 (h1:a02 H1 b=some (.row 1 ((a3j aC cp fo).set j [.slice n 0 f.length (cp j)])))(h2:a02 H1 n=some (.row k f))
 (h3:∀(i:Nat) (g:List (List AV)),i≠j->fo[i]?=some g->g≠[]->a02 H1 (aC i)=a02 H (aC i)) :
 Two H1 b k (λi=>if i=j then n else aC i) cp (fo.set j f):=by
 have bg:j<fo.length:=(f1i.1 hf).1;have ai:∀(i:Nat) (g:List (List AV)),fo[i]?=some g->g≠[]->aC i<H.length:=λi g hg aw=>a1i (h.sub i g hg aw).1;have dm:b<H.length:=a1i h.top;refine⟨?_,?_,?_,?_⟩
 ·rw[h1]
  congr 2
  apply f4x;intro i;unfold a3j;rw[f3a,List.length_mapIdx];by_cases bq:j=i
  ·subst bq;simp only[f7i,bg];rw[f4n,f3a];simp only[f7i,bg,f2k,e5f _ _ aw]
  ·simp only[f2m bq];rw[f4n,f4n,f3a,f2m bq];simp only[f2m (f9l bq)]
 ·intro i g hg ec;rw[f3a]at hg;by_cases bq:j=i
  ·subst bq;simp only[f7i,bg,Option.some.injEq]at hg;subst hg;simp only[f7i];exact⟨h2,by omega⟩
  ·rw[f2m bq]at hg;simp only[f2m (f9l bq)];rw[h3 i g (f9l bq) hg ec];exact h.sub i g hg ec
 ·intro i i' g g' hg eG py ec e;rw[f3a]at hg eG;by_cases bq:j=i<;>by_cases fu:j=i'
  ·omega
  ·subst bq;simp only[f2m fu]at eG;simp only[f7i,f2m (f9l fu)]at e;have:=ai i' g' eG ec;omega
  ·subst fu;simp only[f2m bq]at hg;simp only[f7i,f2m (f9l bq)]at e;have:=ai i g hg py;omega
  ·simp only[f2m bq]at hg;simp only[f2m fu]at eG;simp only[f2m (f9l bq),f2m (f9l fu)]at e;exact h.inj i i' g g' hg eG py ec e
 ·intro g hg;rcases f8d hg with hg|rfl
  ·exact h.flat g hg
  ·exact hx
theorem Two.frzT(h:Two H b k aC cp fo)(m:Nat)(hm:∀j f,fo[j]?=some f->f≠[]->m<=aC j):frzT m (a3k (a02 H) m 12) (a3j aC cp fo)=some (fo.mapIdx λj f=>[slF (cp j) f]):=by
 have key:∀(aa:List (List AV)) (out:List (List AV)),aa.length=out.length->(∀(j:Nat) r o,aa[j]?=some r->out[j]?=some o->a5r m true (a3k (a02 H) m 12) r=some o)->Go.Ax.frzT m (a3k (a02 H) m 12) aa=some out:=by
  intro aa
  induction aa with
  |nil=>intro out hl _;cases out with|nil=>rfl|cons=>simp at hl
  |cons r aa ih=>
   intro out hl hh;cases out with
   |nil=>simp at hl
   |cons o out=>simp only[Go.Ax.frzT];rw[hh 0 r o rfl rfl,ih out (by simpa using hl) (λj r o hr ho=>hh (j+1) r o (by simpa using hr) (by simpa using ho))]
 refine key _ _ (by rw[a3n];simp) ?_;intro j r o hr ho;rw[f4n]at ho;cases hf:fo[j]? with
 |none=>rw[hf]at ho;cases ho
 |some f=>
  rw[hf]at ho;rw[a6g hf]at hr;cases ho;cases hr;rw[a3r,b9o];cases f with
  |nil=>rfl
  |cons x xs=>obtain⟨g1,_⟩:=h.sub j _ hf (by simp);have d5:=hm j _ hf (by simp);have bh:=h.flat _ (c11 hf);simp only[slV,slF];rw[a46,f6w (Nat.not_lt.2 d5),f4i,a3g (eq_true (by omega:0<12)),g1];simp only[a9g,a0j,f6s,f2u];rw[f4m (by simp),f2v];have:List.take (xs.length+1) (x::xs)=x::xs:=f6p (l:=x::xs);rw[this,a0z _ _ bh]
end
end Go.Ax
/- AxRf: loops over functions, as conditions on their ends; their rounds. -/
namespace Go.Ax
theorem d83{E:Env}{ah:Bool}{call:CallF}{g:FuncId}{fs cs as args:List AV}{H:a03}(hx:E.ext g=false)(hf:(E.fn g).isSome=true)(he:fs++as++cs=args){v:AV}{H':a03}{σ:List Nat}
 (h:a2v (call g) args H=some (v,H',σ))(hl:H.length<=H'.length):a20 E ah call (.func (.func g) fs cs) as H=some (v,H',σ):=by
 have hb:Nat.ble H.length H'.length=true:=by rw[f7k];exact hl
 simp only[a20,hx,hf,he,h,hb,f2v,f4i,f8t,Bool.and_false]
end Go.Ax
/- AxTwZ: a slice of slices: a new slice behind the others, a slice that is b3t. -/
namespace Go.Ax
section
variable {H H1:a03}{b k:Nat}{aC:Nat->Nat}{cp:Nat->Option Nat}{fo:List (List (List AV))}
end
theorem b0l{E:Env}{d:Bool}{call:CallF}{g:FuncId}{fs cs ar args:List AV}{H L:a03}{v:AV}(hx:E.ext g=false)(hf:(E.fn g).isSome=true)(he:fs++ar++cs=args)(aJ:a0d args=[])(hr:call g args []=some (v,L)) :
 a20 E d call (.func (.func g) fs cs) ar H=some (ren (a1d [] H.length) v,H++L.map (Option.map (a0g (a1d [] H.length))),[]):=by
 have hc:=a1v (call g) args H (σ:=[]) (by rw[aJ];rfl) rfl rfl (au:=args) (a31 _ aJ) (H0:=[]) rfl hr;rw[a7p]at hc;simp only[f1h,f6s]at hc;exact d83 hx hf he hc (by simp)
section
variable {L:a03}{b k:Nat}{aC:Nat->Nat}{cp:Nat->Option Nat}{fo:List (List (List AV))}
theorem d43(n i:Nat):a1d [] n i=some (n+i):=by
 have h:Nat.blt i 0=false:=by cases i<;>rfl
 simp[a1d,h]
end
section
variable {H2:a03}{b k:Nat}{aC:Nat->Nat}{cp:Nat->Option Nat}{fo:List (List (List AV))}
end
end Go.Ax
/- AxWpY: rules for a function whose own memory is frozen behind its first outermost statements. -/
namespace Go.Ax
def WpY(x:Cx)(j:Nat):Nat->Code->Frm->a03->b02->Prop
 |0,c,F,H,Q=>Wp x c F H Q
 |n+1,c,F,H,Q=>match c with
  |.seq a b=>Wp x a F H λe F1 H1=>match e with
   |.normal=>WpY x j n b (b9p (x.m0+j) H1 F1) (b0q (x.m0+j) H1) Q
   |e=>Q e F1 H1
  |c=>Wp x c F H Q
def zq(x:Cx)(j n:Nat)(b:Code)(Q:b02):b02:=λe F H=>match e with
 |.normal=>WpY x j n b (b9p (x.m0+j) H F) (b0q (x.m0+j) H) Q
 |e=>Q e F H
theorem a7k{x:Cx}{j n:Nat}{a b:Code}{F:Frm}{H:a03}{Q:b02}(h:Wp x a F H (zq x j n b Q)):WpY x j (n+1) (.seq a b) F H Q:=h
theorem d54{x:Cx}{j:Nat}{c:Code}{F:Frm}{H:a03}{Q:b02}(h:Wp x c F H Q):WpY x j 0 c F H Q:=h
theorem a8a{E:Env}{M:List Fact}{m N:Nat}{g:FuncId}{cur j n:Nat}{b:Code}{F:Frm}{H:a03}{Q:b02}:zq (cx E M m N g cur) j n b Q .normal F H=WpY (cx E M m N g cur) j n b (b9p (m+j) H F) (b0q (m+j) H) Q:=by rfl
def EvY(x:Cx)(j n:Nat)(c:Code)(F:Frm)(H:a03)(r:AExit×Frm×a03):Prop:=∃n0,∀lf,n0<=lf->∀(R:Type) (k:AExit->Frm->a03->Option R),e4w x.E x.m0 x.N x.keep (sem x.E x.M) lf j n x.cur c F H k=k r.1 r.2.1 r.2.2
theorem d8n{x:Cx}{j:Nat}{Q:b02}:∀(n:Nat) (c:Code) {F:Frm} {H:a03},WpY x j n c F H Q->∃e F' H',EvY x j n c F H (e,F',H')∧Q e F' H':=by
 intro n
 induction n with
 |zero=>intro c F H h;obtain⟨e,F',H',⟨n0,h1⟩,h2⟩:=c0n c h;exact⟨e,F',H',⟨n0,h1⟩,h2⟩
 |succ n ih=>
  intro c F H h;cases c with
  |seq a b=>
   obtain⟨e,F1,H1,⟨n0,h1⟩,h2⟩:=c0n a (a7k h:_);cases e with
   |normal=>obtain⟨e,F',H',⟨n1,h3⟩,h4⟩:=ih b h2;refine⟨e,F',H',⟨n0+n1,λlf hl R k=>?_⟩,h4⟩;exact(h1 lf (by omega) R _).trans (h3 lf (by omega) R k)
   |exit id=>exact⟨_,_,_,⟨n0,λlf hl R k=>h1 lf hl R _⟩,h2⟩
   |ret=>exact⟨_,_,_,⟨n0,λlf hl R k=>h1 lf hl R _⟩,h2⟩
  |_=>obtain⟨e,F',H',⟨n0,h1⟩,h2⟩:=c0n _ h;exact⟨e,F',H',⟨n0,h1⟩,h2⟩
theorem d0t{E:Env}{M:List Fact}{g:FuncId}{args:List AV}{H:a03}{code:Code}{N j n:Nat}{results:List ResultVar}{e:AExit}{F':Frm}{H':a03}{vs:List AV}{v:AV}{H2:a03}
 (bE:E.fn g=some ⟨code,N,results⟩)(cR:∀y∈M,y.g≠g)(hN:Nat.ble args.length N=true)(h:EvY ⟨E,M,H.length,N,E.keep g,0⟩ j n code (a3t 0 args) H (e,F',H'))(he:∀id,e≠ .exit id)
 (hr:a1c E F' H' results=some vs)(dB:a22 (E.thaw g) H.length (a6l vs) H'=some (v,H2))(hp:E.prim g args=none)(hz:E.zf g=true)(iu:E.zn g=n+1)(li:E.zj g=j)(hw:E.raw g=false):sem E M g args H=some (v,H2):=by
 obtain⟨n1,h⟩:=h;refine b8r cR n1 ?_;unfold b0t;have ph:c1b E g args H=none:=by
  unfold c1b;cases H with
  |nil=>exact hp
  |cons a r=>rfl
 rw[ph,bE];simp only;rw[hN];simp only[f2v];unfold e4x;rw[hz,iu,li];simp only[f2v];refine(h n1 (f2q _) _ _).trans ?_;cases e with
 |exit id=>exact absurd rfl (he id)
 |normal=>simp only[hr,c9q,hw];exact dB
 |ret=>simp only[hr,c9q,hw];exact dB
theorem svY{E:Env}{M:List Fact}{g:FuncId}{args:List AV}{H:a03}{r:AV×a03}(f:Func)(j n:Nat)(h:WpY (cx E M H.length f.ntmps g 0) j n (f.body.getD .skip) (a3t 0 args) H (fq E g H.length f.results.toList r))(bE:E.fn g=some ⟨f.body.getD .skip,f.ntmps,f.results.toList⟩:=by kernel_rfl)
 (cR:(M.all λy=>!Nat.beq y.g g)=true:=by rfl)(hN:Nat.ble args.length f.ntmps=true:=by rfl)(hp:E.prim g args=none:=by rfl)(hz:E.zf g=true:=by rfl)(iu:E.zn g=n+1:=by rfl)(li:E.zj g=j:=by rfl)(hw:E.raw g=false:=by rfl):sem E M g args H=some r:=by
 obtain⟨e,F',H',h1,h2⟩:=d8n _ _ h;have gO:∀y∈M,y.g≠g:=λy hy e=>by have:=f4l.1 cR y hy;rw[e]at this;simp at this
 obtain⟨v,H2⟩:=r;cases e with
 |normal=>obtain⟨vs,h3,h4⟩:=h2;exact d0t bE gO hN h1 (λ_ h=>by cases h) h3 h4 hp hz iu li hw
 |ret=>obtain⟨vs,h3,h4⟩:=h2;exact d0t bE gO hN h1 (λ_ h=>by cases h) h3 h4 hp hz iu li hw
 |exit id=>exact h2.elim
def fqR(E:Env)(results:List ResultVar)(r:AV×a03):b02:=λe F H=>match e with|.exit _=>False|_=>∃vs,a1c E F H results=some vs∧(a6l vs,H)=r
theorem e75{E:Env}{results:List ResultVar}{r:AV×a03}{F:Frm}{H:a03}{vs:List AV}(h1:a1c E F H results=some vs)(h2:(a6l vs,H)=r):fqR E results r .ret F H:=⟨vs,h1,h2⟩
theorem c54{E:Env}{M:List Fact}{g:FuncId}{args:List AV}{H:a03}{code:Code}{N j n:Nat}{results:List ResultVar}{e:AExit}{F':Frm}{H':a03}{vs:List AV}
 (bE:E.fn g=some ⟨code,N,results⟩)(cR:∀y∈M,y.g≠g)(hN:Nat.ble args.length N=true)(h:EvY ⟨E,M,H.length,N,E.keep g,0⟩ j n code (a3t 0 args) H (e,F',H'))(he:∀id,e≠ .exit id)
 (hr:a1c E F' H' results=some vs)(hp:E.prim g args=none)(hz:E.zf g=true)(iu:E.zn g=n+1)(li:E.zj g=j)(hw:E.raw g=true):sem E M g args H=some (a6l vs,H'):=by
 obtain⟨n1,h⟩:=h;refine b8r cR n1 ?_;unfold b0t;have ph:c1b E g args H=none:=by
  unfold c1b;cases H with
  |nil=>exact hp
  |cons a r=>rfl
 rw[ph,bE];simp only;rw[hN];simp only[f2v];unfold e4x;rw[hz,iu,li];simp only[f2v];refine(h n1 (f2q _) _ _).trans ?_;cases e with
 |exit id=>exact absurd rfl (he id)
 |normal=>simp only[hr,c9q,hw,f2v]
 |ret=>simp only[hr,c9q,hw,f2v]
theorem f3x{E:Env}{M:List Fact}{g:FuncId}{args:List AV}{H:a03}{r:AV×a03}(f:Func)(j n:Nat)(h:WpY (cx E M H.length f.ntmps g 0) j n (f.body.getD .skip) (a3t 0 args) H (fqR E f.results.toList r))(bE:E.fn g=some ⟨f.body.getD .skip,f.ntmps,f.results.toList⟩:=by kernel_rfl)
 (cR:(M.all λy=>!Nat.beq y.g g)=true:=by rfl)(hN:Nat.ble args.length f.ntmps=true:=by rfl)(hp:E.prim g args=none:=by rfl)(hz:E.zf g=true:=by rfl)(iu:E.zn g=n+1:=by rfl)(li:E.zj g=j:=by rfl)(hw:E.raw g=true:=by rfl):sem E M g args H=some r:=by
 obtain⟨e,F',H',h1,h2⟩:=d8n _ _ h;have gO:∀y∈M,y.g≠g:=λy hy e=>by have:=f4l.1 cR y hy;rw[e]at this;simp at this
 cases e with
 |normal=>obtain⟨vs,h3,rfl⟩:=h2;exact c54 bE gO hN h1 (λ_ h=>by cases h) h3 hp hz iu li hw
 |ret=>obtain⟨vs,h3,rfl⟩:=h2;exact c54 bE gO hN h1 (λ_ h=>by cases h) h3 hp hz iu li hw
 |exit id=>exact h2.elim
end Go.Ax
/- AxPre: calls that see the first blocks of the caller's memory, as they lie. -/
namespace Go.Ax
theorem d2q{n i:Nat}:(List.range n).idxOf? i=if i<n then some i else none:=by
 by_cases h:i<n
 ·rw[f2w h];exact a6u List.nodup_range (by rw[f6v h])
 ·rw[f2m h,List.idxOf?_eq_none_iff];simpa using h
theorem d2v{P K:a03}{b:Nat}(h:b<P.length):a02 (P++K) b=a02 P b:=by unfold a02;rw[f2l h]
theorem d1w(P:a03):(List.range P.length).map (a02 P)=P:=by
 apply f4x;intro i;rw[f1l];by_cases h:i<P.length
 ·rw[f6v h,z9e h];simp only[f2k,a02,z9e h];rfl
 ·rw[f2s (by simpa using h),f2s (by omega)];rfl
theorem d3w{E:Env}{ah:Bool}{call:CallF}{g:FuncId}{fs cs ar args:List AV}{P P' K:a03}{v:AV}{n:Nat}(hx:E.ext g=false)(hf:(E.fn g).isSome=true)(he:fs++ar++cs=args)(hn:P.length=n)
 (hσ:a24 (P++K) 1000000 (a0d args) []=List.range n)(i8:args.map (ren (a78 (List.range n)))=args)(hP:P.map (Option.map (a0g (a78 (List.range n))))=P)(hr:call g args P=some (v,P'))(hl:P'.length=n)
 (hb:P'.map (Option.map (a0g (a1d (List.range n) (P++K).length)))=P')(hv:refs v=[]):a20 E ah call (.func (.func g) fs cs) ar (P++K)=some (v,P'++K,List.range n):=by
 have bn:a54 (List.range n)=true:=b0v List.nodup_range;have aW:((List.range n).all λb=>decide (b<(P++K).length))=true:=by rw[f4l];intro b hb;have:=f7n.1 hb;rw[f2y,f2n];omega
 have o6:a4q (P++K) (List.range n) (a78 (List.range n))=P:=by
  unfold a4q;have e:((List.range n).map λb=>(a02 (P++K) b).map (a0g (a78 (List.range n))))=((List.range n).map (a02 P)).map (Option.map (a0g (a78 (List.range n)))):=by rw[f7c];apply f4y;intro b hb;have nE:=f7n.1 hb;simp only[Function.comp,d2v (K:=K) (show b<P.length by omega)]
  rw[e,<-hn,d1w,hn,hP]
 have hc:=a1v (call g) args (P++K) hσ bn aW i8 o6 hr;have eZ:a1h (List.range n) (P++K).length P' 0 (P++K)=P'++K:=by
  apply f4x;intro i;rw[a8p,f2u,d2q];by_cases h:i<n
  ·rw[f2w h,f2l (by omega),f2l (by omega)];rw[z9e (show i<P.length by omega)];simp only[f2k];have h2:=congrArg (λl=>l[i]?) hb;simp only[f1l]at h2;rw[z9e (show i<P'.length by omega)]at h2⊢;simp only[f2k]at h2;rw[<-h2];simp only[a02,z9e (show i<P'.length by omega)];rfl
  ·rw[f2m h,f2r (by omega),f2r (by omega),hn,hl];cases K[i-n]? with
   |none=>rfl
   |some o=>rfl
 have jc:P'.drop (List.range n).length=[]:=by rw[f3b];exact List.drop_of_length_le (by omega)
 rw[a0b _ v hv,eZ,jc,f1g,f1b]at hc;exact a63 hx hf he hc (by simp only[f2n];omega)
def a6r:a03->Prop
 | []=>True
 |some (.row _ aa)::H=>FlatR aa∧a6r H
 |_::_=>False
theorem d7e:∀{n:Nat} {H G:a03} {d:AV->Option AV},a6r H->(H.take n).map (Option.map (a90 n d))=H.take n:=by
 intro n H G d
 suffices h:∀(j:Nat) (H:a03),a6r H->(H.take j).map (Option.map (a90 n d))=H.take j from h n H
 intro j
 induction j with
 |zero=>intro H _;rfl
 |succ j ih=>
  intro H h
  match H,h with
  | [],_=>rfl
  |some (.row k aa)::H,h=>simp only[f3c,f1a,f2k,a90,a2o h.1,ih H h.2]
theorem a1z{n:Nat}{H:a03}(h:a6r H):b0q n H=H.take n:=d7e (G:=[]) h
theorem e76{r:List AV}(h:a0d r=[]):FlatR [r]:=FlatR.cons h FlatR.nil
theorem a1n{r:List AV}:FlatR [r]↔a0d r=[]:=⟨λh=>h r (f2x.2 rfl),e76⟩
theorem c0k{E:Env}{M:List Fact}{m N:Nat}{g:FuncId}{cur:Nat}:(cx E M m N g cur).m0=m:=by rfl
theorem d84{E:Env}{ah:Bool}{call:CallF}{g:FuncId}{fs cs as args:List AV}{H:a03}(hx:E.ext g=false)(hf:(E.fn g).isSome=true)(he:fs++as++cs=args){v:AV}{H':a03}{σ:List Nat}
 (h:a2v (call g) args H=some (v,H',σ))(hl:H.length<=H'.length):a20 E ah call (.func (.func g) fs cs) as H=some (v,H',σ):=by
 have hb:Nat.ble H.length H'.length=true:=by rw[f7k];exact hl
 simp only[a20,hx,hf,he,f2v,f4i,h,hb,f8t,Bool.and_false]
end Go.Ax
