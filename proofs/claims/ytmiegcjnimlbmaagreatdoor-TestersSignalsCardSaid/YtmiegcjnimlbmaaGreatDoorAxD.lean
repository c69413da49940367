/- AxTop: a call from outside: a32 old block is immutable. -/
import Derived.Test.YtmiegcjnimlbmaaGreatDoorAxC
import Derived.Below
import GoSem.ClaimChange
import GoSem.ClaimJoined
import Derived.RowKit
import Derived.ChangeSame
import Derived.Carry
import Derived.IntWalk
import Derived.KernelRfl
set_option linter.unusedSimpArgs false
set_option linter.unusedVariables false
namespace Go.Ax
open Go.RowKit
def Old(w:World):Nat→Prop:=λc=>c<w.heap.size
def Holds(E:Env)(w:World):Prop:=∀g cs,E.G g=some cs→g<w.heap.size∧VAt (Old w) w noP cs g 0
theorem d0o{E:Env}{f:FuncId}{run:List AV→a03→Option (AV×a03)}(hfy:f≠yId)(hf:a81 E f run){args:List AV}{v:AV}{H':a03}(h:run args []=some (v,H')){w:World}(hG:Holds E w){cargs:List Value}(ha:VRels (Old w) w noP args cargs) :
 Calls E.P f cargs.toArray w λen w'=>∃c I' ρ',en = .returned c∧Below w.heap.size w w'∧VRel I' w' ρ' v c:=by
 have rel:HRel E.G (Old w) (λ_=>False) noP (a02 []) w:=by
  refine⟨?_,?_,?_,λc hc=>hc,λc hc=>hc.elim,λ_ _ h=>h,hG⟩
  ·intro b o hb;simp[a02]at hb
  ·intro b b' m m' hb;simp[a02]at hb
  ·intro b m hb;simp[noP]at hb
 have h0:=hf args [] v H' h (Old w) (λ_=>False) noP w cargs rel (λ_ _=>rfl) ha;rw[b1j hfy]at h0;refine Calls.mono h0 ?_
 rintro en w' ⟨c,I',ρ',rfl,hret,hv⟩
 exact⟨c,I',ρ',rfl,⟨hret.ext.os,hret.ext.tape,hret.ext.output,hret.ext.size,λk hk=>hret.ext.keep k (.inl hk)⟩,hv⟩
theorem c46{E:Env}{f:FuncId}{run:List AV→a03→Option (AV×a03)}(hfy:f≠yId)(hf:a81 E f run){args:List AV}{H':a03}(h:run args []=some (.bool true,H')){w:World}(hG:Holds E w){cargs:List Value}(ha:VRels (Old w) w noP args cargs) :
 Calls E.P f cargs.toArray w λen w'=>en = .returned (.bool true)∧Below w.heap.size w w':=by
 refine(d0o hfy hf h hG ha).mono ?_
 rintro en w' ⟨c,I',ρ',rfl,hb,hv⟩
 simp only[VRel]at hv;subst hv;exact⟨rfl,hb⟩
end Go.Ax
/- AxRead: what the row's reading of an argument gives: abstract values of the argument's type. -/
namespace Go.Ax
def Typ(E:Env):Nat→TypeId→List AV→Prop
 |0,_,_=>False
 |n+1,t,avs=>match E.und t with
  |some .bool=>∃b,avs=[.bool b]
  |some (.int k)=>∃i,avs=[.int k i]∧(Lit.int k i).wf=true
  |some .string=>∃s,avs=[.str s]∧s.length≤maxLen
  |some (.slice e)=>avs=[.nilslice]∨∃rows cap,avs=[.islice rows (some cap)]∧rows.length≤cap∧cap≤maxLen∧∀r∈rows,r.length=E.sz e∧Typ E n e r
  |some (.struct fs)=>∃parts:List (List AV),avs=parts.flatten∧parts.length=fs.toList.length∧∀(i:Nat) f p,fs.toList[i]?=some f→parts[i]?=some p→p.length=E.sz f.type∧Typ E n f.type p
  |some (.array m e)=>∃parts:List (List AV),avs=parts.flatten∧parts.length=m∧∀p∈parts,p.length=E.sz e∧Typ E n e p
  |_=>False
def c1c(E:Env):Nat→List Field→Option Nat
 |o,[]=>some o
 |o,f::r=>bif Nat.beq f.offset o then c1c E (o+E.sz f.type) r else none
def a3o(E:Env):Nat→TypeId→Bool
 |0,_=>false
 |n+1,t=>match E.und t with
  |some .bool=>true
  |some (.int _)=>true
  |some .string=>true
  |some (.slice e)=>(E.und e).isSome&&Nat.blt 0 (E.sz e)&&a3o E n e
  |some (.struct fs)=>(match c1c E 0 fs.toList with|some m=>Nat.beq m (E.sz t)|none=>false)&&fs.toList.all (λf=>(E.und f.type).isSome&&a3o E n f.type)
  |some (.array m e)=>(E.und e).isSome&&Nat.beq (m*E.sz e) (E.sz t)&&a3o E n e
  |_=>false
section
variable {E:Env}{w:World}{H:Type}{enc:TypeId×Value→H}{base:Nat}{spare:Nat→Bool}{held:Bool}
theorem a30(ok:EnvOk E){t:TypeId}{d:TypeDesc}(h:E.und t=some d):E.P.cellsOf t=E.sz t:=by obtain⟨_,i,hi,h1,_⟩:=ok.und t d h;simp[Program.cellsOf,hi,h1]
theorem c1j{I:Nat→Prop}{k:Nat}{b:Nat}{Pr:List AV→Prop}:∀(len off:Nat),(∀i,i<len→∃r,Pr r∧r.length=k∧VAt I w noP r b (off+i*k))→
 ∃rows:List (List AV),rows.length=len∧(∀r∈rows,r.length=k∧Pr r)∧VRows I w k noP rows b off
 |0,off,_=>⟨[],rfl,by simp,by simp[VRows]⟩
 |len+1,off,h=>by
  obtain⟨r,h1,h2,h3⟩:=h 0 (by omega);obtain⟨rows,g1,g2,g3⟩:=c1j (Pr:=Pr) len (off+k) (λi hi=>by obtain⟨r,q1,q2,q3⟩:=h (i+1) (by omega);refine⟨r,q1,q2,?_⟩;rw[show off+k+i*k=off+(i+1)*k by rw[Nat.add_mul];omega];exact q3);refine⟨r::rows,by simp[g1],?_,?_⟩
  ·intro x hx;simp only[List.mem_cons]at hx;rcases hx with rfl|hx
   ·exact⟨h2,h1⟩
   ·exact g2 x hx
  ·simp only[VRows];exact⟨h2,by simpa using h3,g3⟩
theorem b81{I:Nat→Prop}{cs:List Value}{n:Nat}:∀(fs:List Field) (o:Nat) {m:Nat},c1c E o fs=some m→m≤cs.length→
 (∀f∈fs,∃avs,VRels I w noP avs ((cs.drop f.offset).take (E.sz f.type))∧Typ E n f.type avs)→
 o≤m∧∃parts:List (List AV),parts.length=fs.length∧(∀(i:Nat) f p,fs[i]?=some f→parts[i]?=some p→p.length=E.sz f.type∧Typ E n f.type p)∧VRels I w noP parts.flatten ((cs.drop o).take (m-o))
 | [],o,m,ht,hm,_=>by simp only[c1c,Option.some.injEq]at ht;subst ht;exact⟨Nat.le_refl _,[],rfl,by simp,by simp[VRels]⟩
 |f::r,o,m,ht,hm,h=>by
  simp only[c1c,cond_eq_ite]at ht;split at ht
  case isFalse=>cases ht
  rename_i hfo;have hfo:f.offset=o:=by simpa using hfo
  obtain⟨hle,parts,h1,h2,h3⟩:=b81 r (o+E.sz f.type) ht hm (λg hg=>h g (by simp[hg]));obtain⟨avs,g1,g2⟩:=h f (by simp);rw[hfo]at g1;have hlen:avs.length=E.sz f.type:=by have:=VRels.length g1;rw[this];simp;omega
  refine⟨by omega,avs::parts,by simp[h1],?_,?_⟩
  ·intro i g p hg hp;cases i with
   |zero=>simp only[List.getElem?_cons_zero,Option.some.injEq]at hg hp;subst hg;subst hp;exact⟨hlen,g2⟩
   |succ i=>simp only[List.getElem?_cons_succ]at hg hp;exact h2 i g p hg hp
  ·simp only[List.flatten_cons];have:(cs.drop o).take (m-o)=(cs.drop o).take (E.sz f.type)++(cs.drop (o+E.sz f.type)).take (m-(o+E.sz f.type)):=by
    rw[show m-o=E.sz f.type+(m-(o+E.sz f.type)) by omega,List.take_add,List.drop_drop]
   rw[this];exact VRels.append g1 h3
theorem c6s{I:Nat→Prop}{cs:List Value}{n k:Nat}{e:TypeId}:∀(m o:Nat),o+m*k≤cs.length→
 (∀i,i<m→∃avs,VRels I w noP avs ((cs.drop (o+i*k)).take k)∧Typ E n e avs)→
 ∃parts:List (List AV),parts.length=m∧(∀p∈parts,p.length=k∧Typ E n e p)∧VRels I w noP parts.flatten ((cs.drop o).take (m*k))
 |0,o,_,_=>⟨[],rfl,by simp,by simp[VRels]⟩
 |m+1,o,hl,h=>by
  have hmk:(m+1)*k=k+m*k:=by rw[Nat.add_mul];omega
  obtain⟨parts,h1,h2,h3⟩:=c6s (cs:=cs) (k:=k) (e:=e) m (o+k) (by omega) (λi hi=>by obtain⟨avs,g1,g2⟩:=h (i+1) (by omega);refine⟨avs,?_,g2⟩;rw[show o+k+i*k=o+(i+1)*k by rw[Nat.add_mul];omega];exact g1);obtain⟨avs,g1,g2⟩:=h 0 (by omega);rw[Nat.zero_mul,Nat.add_zero]at g1;have hlen:avs.length=k:=by have:=VRels.length g1;rw[this];simp;omega
  refine⟨avs::parts,by simp[h1],?_,?_⟩
  ·intro p hp;simp only[List.mem_cons]at hp;rcases hp with rfl|hp
   ·exact⟨hlen,g2⟩
   ·exact h2 p hp
  ·simp only[List.flatten_cons];rw[hmk,List.take_add,List.drop_drop];exact VRels.append g1 h3
theorem b3o{α β:Type}{f:α→Option β}{l:List α}{r:List β}(h:l.mapM f=some r):∀x∈l,∃y,f x=some y:=by
 induction l generalizing r with
 |nil=>simp
 |cons a l ih=>
  rw[List.mapM_cons]at h;intro x hx;cases hfa:f a with
  |none=>simp[hfa]at h
  |some y=>
   simp only[hfa,Option.bind_eq_bind,Option.bind_some]at h;cases hl:l.mapM f with
   |none=>simp[hl]at h
   |some r'=>
    simp only[List.mem_cons]at hx;rcases hx with rfl|hx
    ·exact⟨y,hfa⟩
    ·exact ih hl x hx
theorem b1e{I:Nat→Prop}{avs:List AV}{cs:List Value}{b off:Nat}(hc:∀i v,cs[i]?=some v→w.cell? ⟨b,off+i,none⟩=some v)(h:VRels I w noP avs cs):VAt I w noP avs b off:=VAt.of_cells (λi v hv=>hc i v hv) h
theorem c1n(ok:EnvOk E):∀(n:Nat) (t:TypeId),a3o E n t=true→∀(fuel:Nat) (cs:List Value) (x:DataW H×List MemPlace),DataW.trod enc E.P w base spare held fuel t cs=some x→
 ∃avs,VRels (Old w) w noP avs cs∧Typ E n t avs
 |0,t,hr=>by simp[a3o]at hr
 |n+1,t,hr=>by
  intro fuel cs x h;cases fuel with
  |zero=>simp[DataW.trod]at h
  |succ fuel=>
  have ih:=c1n ok n;unfold a3o at hr;unfold DataW.trod at h;cases hu:E.und t with
  |none=>rw[hu]at hr;simp at hr
  |some d=>
   have hP:=(ok.und t d hu).1;have hsz:=a30 ok hu;rw[hu]at hr;rw[hP]at h;cases d<;>simp only[Bool.false_eq_true]at hr
   case bool=>
    obtain⟨b,rfl⟩:∃b,cs=[.bool b]:=by split at h<;>simp_all
    exact⟨[.bool b],by simp[VRels,VRel],by simp[Typ,hu]⟩
   case int k=>
    obtain⟨i,rfl,hw⟩:∃i,cs=[.int k i]∧(Lit.int k i).wf=true:=by split at h<;>simp_all
    exact⟨[.int k i],by simp[VRels,VRel],by simp[Typ,hu,hw]⟩
   case string=>
    obtain⟨b,rfl,hw⟩:∃b:ByteArray,cs=[.string b]∧b.size≤maxLen:=by split at h<;>simp_all
    exact⟨[.str b.data.toList],by simp[VRels,VRel],by simp only[Typ,hu];exact⟨_,rfl,by simpa using hw⟩⟩
   case slice e=>
    simp only[Bool.and_eq_true,Nat.blt_eq]at hr;obtain⟨⟨hr1,hr2⟩,hr3⟩:=hr;obtain⟨de,hde⟩:=Option.isSome_iff_exists.1 hr1;have hsze:=a30 ok hde;have hkey:cs=[.slice none 0 0]∨∃a len cap,cs=[.slice (some a) len cap]∧len≤cap∧cap≤maxLen∧
     ∃elems,((List.range len).mapM λi=>(w.cells? base (a.add (i*E.P.cellsOf e)) (E.P.cellsOf e)).bind (DataW.trod enc E.P w base spare held fuel e))=some elems:=by
     split at h
     all_goals first|(rename_i heq;cases heq;done)|(cases h;done)|skip
     ·left;rfl
     ·rename_i e' a len cap heq;cases heq;dsimp only at h;split at h
      case isFalse=>cases h
      rename_i hc;right;refine⟨a,len,cap,rfl,hc.2.1,hc.2.2,?_⟩;cases hm:((List.range len).mapM λi=>(w.cells? base (a.add (i*E.P.cellsOf e)) (E.P.cellsOf e)).bind (DataW.trod enc E.P w base spare held fuel e))with
      |none=>rw[hm]at h;simp at h
      |some elems=>exact⟨elems,rfl⟩
    rcases hkey with rfl|⟨a,len,cap,rfl,hlc,hcm,elems,hel⟩
    ·exact⟨[.nilslice],by simp[VRels,VRel],by simp only[Typ,hu];exact .inl trivial⟩
    ·have hrow:∀i,i<len→∃r,Typ E n e r∧r.length=E.sz e∧VAt (Old w) w noP r a.block (a.off+i*E.sz e)∧a.spot=none∧a.block<w.heap.size:=by
      have hat:∀i,i<len→∃cs' y,cs'.length=E.sz e∧(∀j,j<E.sz e→w.cell? ((a.add (i*E.sz e)).add j)=cs'[j]?)∧DataW.trod enc E.P w base spare held fuel e cs'=some y:=by
       intro i hi;obtain⟨y,hy⟩:=b3o hel i (by simpa using hi);rw[hsze]at hy;cases hc:w.cells? base (a.add (i*E.sz e)) (E.sz e)with
       |none=>rw[hc]at hy;simp at hy
       |some cs'=>rw[hc]at hy;obtain⟨_,h2,h3⟩:=World.cells?_some hc;exact⟨cs',y,h2,h3,by simpa using hy⟩
      intro i hi;have hspot:a.spot=none∧a.block<w.heap.size:=by
       obtain⟨cs0,y0,h1,h2,_⟩:=hat 0 (by omega);have h3:=h2 0 hr2;rw[Nat.zero_mul,show(a.add 0).add 0=a from by simp[Addr.add],z9e (by omega)]at h3;unfold World.cell? at h3;split at h3
       ·rename_i hb;refine⟨?_,(Array.getElem?_eq_some_iff.1 hb).1⟩;cases hs:a.spot with
        |none=>rfl
        |some _=>rw[hs]at h3;simp at h3
       ·cases h3
      obtain⟨cs',y,h1,h2,h3⟩:=hat i hi;obtain⟨r,q1,q2⟩:=ih e hr3 fuel cs' y h3;refine⟨r,q2,by rw[VRels.length q1,h1],b1e ?_ q1,hspot⟩;intro j v hv;have hj:j<E.sz e:=by rw[←h1];exact(List.getElem?_eq_some_iff.1 hv).1
      have:=h2 j hj;rw[hv]at this;rw[←this]
      congr 1
      obtain⟨ab,ao,as⟩:=a;obtain⟨rfl,_⟩:=hspot;unfold Addr.add;split<;>split<;>simp_all
     obtain⟨rows,g1,g2,g3⟩:=c1j (Pr:=Typ E n e) len a.off (λi hi=>by obtain⟨r,q1,q2,q3,_⟩:=hrow i hi;exact⟨r,q1,q2,q3⟩);refine⟨[.islice rows (some cap)],?_,by simp only[Typ,hu];exact .inr ⟨rows,cap,rfl,by omega,hcm,g2⟩⟩;simp only[VRels];refine⟨_,[],rfl,?_,rfl⟩;simp only[VRel];refine⟨a,cap,E.sz e,by rw[g1],by omega,by simp,?_⟩;cases len with
     |zero=>exact .inl (List.length_eq_zero_iff.1 g1)
     |succ len=>obtain⟨_,_,_,_,q4,q5⟩:=hrow 0 (by omega);exact .inr ⟨q4,q5,g3⟩
   case struct fs=>
    simp only[Bool.and_eq_true,List.all_eq_true]at hr;obtain⟨hr1,hr2⟩:=hr;split at hr1
    case h_2=>cases hr1
    rename_i m hm;have hmt:m=E.sz t:=by simpa using hr1
    have hkey:cs.length=E.P.cellsOf t∧∃xs,(fs.toList.mapM λf=>DataW.trod enc E.P w base spare held fuel f.type ((cs.drop f.offset).take (E.P.cellsOf f.type)))=some xs:=by
     dsimp only at h;split at h
     ·rename_i hl;obtain⟨xs,hxs,_⟩:=a05 h;exact⟨hl,xs,hxs⟩
     ·cases h
    obtain⟨hlen,xs,hxs⟩:=hkey;obtain⟨_,parts,h1,h2,h3⟩:=b81 (E:=E) (I:=Old w) (w:=w) (cs:=cs) (n:=n) fs.toList 0 hm (by omega) (λf hf=>by obtain⟨y,hy⟩:=b3o hxs f hf;have h2:=hr2 f hf;obtain⟨df,hdf⟩:=Option.isSome_iff_exists.1 h2.1;rw[a30 ok hdf]at hy;exact ih f.type h2.2 fuel _ _ hy);refine⟨parts.flatten,?_,by simp only[Typ,hu];exact⟨parts,rfl,h1,h2⟩⟩;rw[List.drop_zero,Nat.sub_zero,List.take_of_length_le (by omega)]at h3;exact h3
   case array m e=>
    simp only[Bool.and_eq_true]at hr;obtain⟨⟨hr1,hr2⟩,hr3⟩:=hr;obtain⟨de,hde⟩:=Option.isSome_iff_exists.1 hr1;have hsze:=a30 ok hde;have hmk:m*E.sz e=E.sz t:=by simpa using hr2
    have hkey:cs.length=E.P.cellsOf t∧∃xs,((List.range m).mapM λi=>DataW.trod enc E.P w base spare held fuel e ((cs.drop (i*E.P.cellsOf e)).take (E.P.cellsOf e)))=some xs:=by
     dsimp only at h;split at h
     ·rename_i hl;obtain⟨xs,hxs,_⟩:=a05 h;exact⟨hl,xs,hxs⟩
     ·cases h
    obtain⟨hlen,xs,hxs⟩:=hkey;obtain⟨parts,h1,h2,h3⟩:=c6s (E:=E) (I:=Old w) (w:=w) (cs:=cs) (n:=n) (k:=E.sz e) (e:=e) m 0 (by omega) (λi hi=>by obtain⟨y,hy⟩:=b3o hxs i (by simpa using hi);rw[hsze]at hy;rw[Nat.zero_add];exact ih e hr3 fuel _ _ hy);refine⟨parts.flatten,?_,by simp only[Typ,hu];exact⟨parts,rfl,h1,h2⟩⟩;rw[List.drop_zero,List.take_of_length_le (by omega)]at h3;exact h3
end
end Go.Ax
/- AxArgs: a row's arguments as abstract values. -/
namespace Go.Ax
def d0k(E:Env)(n:Nat)(t:TypeId)(av:AV):Prop:=
 match E.und t with
 |some d=>bif a1j d then ∃avs,av = .agg avs∧Typ E n t avs else Typ E n t [av]
 |none=>False
def TypAs(E:Env)(n:Nat):List TypeId→List AV→Prop
 | [],avs=>avs=[]
 |t::ts,avs=>∃a r,avs=a::r∧d0k E n t a∧TypAs E n ts r
section
variable {E:Env}{w:World}{H:Type}{enc:TypeId×Value→H}{spare:Nat→Bool}{held:Bool}{b0:Nat}
theorem d2m(ok:EnvOk E){n:Nat}{t:TypeId}{v:Value}{d:DataW H}{ps:List MemPlace}(hr:a3o E n t=true)(hv:Value.okWide E.P w .any b0 t v)(h:DataW.Trod enc E.P w 0 spare held t v d ps) :
 ∃a,VRel (Old w) w noP a v∧d0k E n t a:=by
 obtain⟨fuel,hf⟩:=h;obtain⟨avs,h1,h2⟩:=c1n ok n t hr fuel _ _ hf;cases hu:E.und t with
 |none=>cases n<;>simp[a3o,hu]at hr
 |some dd=>
  have hP:=(ok.und t dd hu).1;unfold Value.okWide at hv;rw[hP]at hv;cases hag:a1j dd with
  |true=>
   have hv:∃cs,v = .agg cs∧cs.size=E.P.cellsOf t∧Row.okWide E.P w .any b0 t cs:=by cases dd<;>simp[a1j]at hag<;>exact hv
   obtain⟨cs,rfl,_,_⟩:=hv;exact⟨.agg avs,by simp only[VRel];exact⟨cs,rfl,h1⟩,by simp only[d0k,hu,hag,cond_true];exact⟨avs,rfl,h2⟩⟩
  |false=>
   have hcell:v.cells = #[v]:=by
    cases v with
    |agg cs=>exfalso;cases dd<;>simp[a1j]at hag<;>simp[Cell.okWide,Cell.ok,hP]at hv
    |_=>rfl
   rw[hcell]at h1;have h3:=h1;obtain⟨a,rfl⟩:∃a,avs=[a]:=by
    have:=VRels.length h1
    match avs,this with
    | [a],_=>exact⟨a,rfl⟩
   simp only[VRels]at h3;obtain⟨c,_,hc,h4,rfl⟩:=h3;simp only[List.cons.injEq,and_true]at hc;subst hc;exact⟨a,h4,by simp only[d0k,hu,hag,cond_false];exact h2⟩
theorem c39(ok:EnvOk E){n:Nat}:∀(ts:List TypeId) (vs:List Value) (ds:List (DataW H)) (ps:List MemPlace),DataW.TrodAll enc E.P w 0 spare held ts vs ds ps→
 (∀(j:Nat) t v,ts[j]?=some t→vs[j]?=some v→Value.okWide E.P w .any b0 t v)→(ts.all (a3o E n))=true→∃args,VRels (Old w) w noP args vs∧TypAs E n ts args
 | [],vs,ds,ps,h,_,_=>by
  cases vs with
  |nil=>exact⟨[],by simp[VRels],rfl⟩
  |cons v vs=>cases ds<;>simp[DataW.TrodAll]at h
 |t::ts,vs,ds,ps,h,hv,hr=>by
  cases vs with
  |nil=>cases ds<;>simp[DataW.TrodAll]at h
  |cons v vs=>
   cases ds with
   |nil=>simp[DataW.TrodAll]at h
   |cons d ds=>simp only[DataW.TrodAll]at h;obtain⟨p,q,h1,h2,_⟩:=h;simp only[List.all_cons,Bool.and_eq_true]at hr;obtain⟨a,g1,g2⟩:=d2m ok hr.1 (hv 0 t v rfl rfl) h1;obtain⟨r,g3,g4⟩:=c39 ok ts vs ds q h2 (λj t v ht hv'=>hv (j+1) t v (by simpa using ht) (by simpa using hv')) hr.2;exact⟨a::r,by simp only[VRels];exact⟨v,vs,rfl,g1,g3⟩,⟨a,r,rfl,g2,g4⟩⟩
end
end Go.Ax
/- AxLaid: what a listed package-level variable c4g as, as abstract cells. -/
namespace Go.Ax
def b8w(E:Env)(f:TypeId→DataW Unit→Option (List AV)):Nat→List Field→List (DataW Unit)→Option (List AV)
 |_,[],[]=>some []
 |o,x::fs,d::ds=>bif Nat.beq x.offset o&&(E.und x.type).isSome then
  match f x.type d,b8w E f (o+E.sz x.type) fs ds with
  |some a,some b=>bif Nat.beq a.length (E.sz x.type)then some (a++b)else none
  |_,_=>none
  else none
 |_,_,_=>none
def b10(k:Nat)(f:DataW Unit→Option (List AV)):List (DataW Unit)→Option (List (List AV))
 | []=>some []
 |d::ds=>match f d,b10 k f ds with
  |some a,some b=>bif Nat.beq a.length k then some (a::b)else none
  |_,_=>none
def b1q(E:Env):Nat→TypeId→DataW Unit→Option (List AV)
 |0,_,_=>none
 |n+1,t,d=>match E.und t,d with
  |some .bool,.lit (.bool b)=>some [.bool b]
  |some (.int k),.lit (.int k' i)=>bif k==k' then some [.int k i]else none
  |some .string,.lit (.string s)=>some [.str s]
  |some (.struct fs),.agg ds=>match b8w E (b1q E n) 0 fs.toList ds with
   |some avs=>bif Nat.beq avs.length (E.sz t)then some avs else none
   |none=>none
  |some (.array m e),.agg ds=>bif (E.und e).isSome&&Nat.beq (m*E.sz e) (E.sz t)&&Nat.beq ds.length m then(b10 (E.sz e) (b1q E n e) ds).map List.flatten else none
  |some (.slice _),.nil=>some [.nilslice]
  |some (.slice e),.slice es spare=>bif (E.und e).isSome&&Nat.blt 0 (E.sz e)&&Nat.blt 0 es.length then(b10 (E.sz e) (b1q E n e) es).map λrows=>[.islice rows (some (es.length+spare.length))]else none
  |_,_=>none
section
variable {E:Env}{w:World}{enc:TypeId×Value→Unit}{base:Nat}{held:Bool}
theorem a5i{α β:Type}{f:α→Option β}{a:α}{l:List α}{r:List β}(h:(a::l).mapM f=some r):∃b r',f a=some b∧l.mapM f=some r'∧r=b::r':=by
 rw[List.mapM_cons]at h;cases hfa:f a with
 |none=>simp[hfa]at h
 |some y=>
  simp only[hfa,Option.bind_eq_bind,Option.bind_some]at h;cases hl:l.mapM f with
  |none=>simp[hl]at h
  |some r'=>simp only[hl,Option.bind_some]at h;cases h;exact⟨y,r',rfl,rfl,rfl⟩
theorem b3m{α β:Type}{f:α→Option β}:∀{l:List α} {r:List β},l.mapM f=some r→r.length=l.length
 | [],r,h=>by cases h;rfl
 |a::l,r,h=>by obtain⟨b,r',_,h2,rfl⟩:=a5i h;simp[b3m h2]
theorem b3n{α β:Type}{f:α→Option β}:∀{l:List α} {r:List β},l.mapM f=some r→∀(i:Nat) a,l[i]?=some a→∃b,f a=some b∧r[i]?=some b
 | [],r,h,i,a,ha=>by simp at ha
 |x::l,r,h,i,a,ha=>by
  obtain⟨b,r',h1,h2,rfl⟩:=a5i h;cases i with
  |zero=>simp only[List.getElem?_cons_zero,Option.some.injEq]at ha;subst ha;exact⟨b,h1,rfl⟩
  |succ i=>simp only[List.getElem?_cons_succ]at ha⊢;exact b3n h2 i a ha
theorem a8m{k:Nat}{f:DataW Unit→Option (List AV)}:∀{ds:List (DataW Unit)} {rows:List (List AV)},b10 k f ds=some rows→rows.length=ds.length
 | [],rows,h=>by cases h;rfl
 |d::ds,rows,h=>by
  simp only[b10]at h;split at h
  case h_2=>cases h
  rename_i a b ha hb;rw[cond_eq_ite]at h;split at h
  ·cases h;simp[a8m hb]
  ·cases h
theorem a8n{k:Nat}{f:DataW Unit→Option (List AV)}:∀{ds:List (DataW Unit)} {rows:List (List AV)},b10 k f ds=some rows→∀(i:Nat) d,ds[i]?=some d→∃a,f d=some a∧a.length=k∧rows[i]?=some a
 | [],rows,h,i,d,hd=>by simp at hd
 |x::ds,rows,h,i,d,hd=>by
  simp only[b10]at h;split at h
  case h_2=>cases h
  rename_i a b ha hb;rw[cond_eq_ite]at h;split at h
  case isFalse=>cases h
  rename_i hk;cases h;cases i with
  |zero=>simp only[List.getElem?_cons_zero,Option.some.injEq]at hd;subst hd;exact⟨a,ha,by simpa using hk,rfl⟩
  |succ i=>simp only[List.getElem?_cons_succ]at hd⊢;exact a8n hb i d hd
theorem b12{I:Nat→Prop}{cs:List Value}{f:TypeId→DataW Unit→Option (List AV)}{g:Field→Option (DataW Unit×List MemPlace)}
 (hg:∀x y avs,g x=some y→f x.type y.1=some avs→VRels I w noP avs ((cs.drop x.offset).take (E.sz x.type))) :
 ∀(fs:List Field) (o:Nat) {xs:List (DataW Unit×List MemPlace)} {avs:List AV},fs.mapM g=some xs→b8w E f o fs (xs.map (·.1))=some avs→VRels I w noP avs ((cs.drop o).take avs.length)
 | [],o,xs,avs,hm,hf=>by cases hm;cases hf;simp[VRels]
 |x::fs,o,xs,avs,hm,hf=>by
  obtain⟨y,ys,h1,h2,rfl⟩:=a5i hm;simp only[List.map_cons,b8w]at hf;rw[cond_eq_ite]at hf;split at hf
  case isFalse=>cases hf
  rename_i hc;simp only[Bool.and_eq_true,Nat.beq_eq]at hc;split at hf
  case h_2=>cases hf
  rename_i a b ha hb;rw[cond_eq_ite]at hf;split at hf
  case isFalse=>cases hf
  rename_i hl;rw[Nat.beq_eq]at hl;cases hf;have ih:=b12 hg fs _ h2 hb;have h3:=hg x y a h1 ha;rw[hc.1,←hl]at h3;rw[List.length_append,List.take_add,List.drop_drop,hl]at *;exact VRels.append h3 ih
theorem b4v{I:Nat→Prop}{cs:List Value}{k:Nat}:∀(rows:List (List AV)) (o:Nat),(∀(i:Nat) r,rows[i]?=some r→r.length=k∧VRels I w noP r ((cs.drop (o+i*k)).take k))→
 VRels I w noP rows.flatten ((cs.drop o).take (rows.length*k))
 | [],o,_=>by simp[VRels]
 |r::rows,o,h=>by have h0:=h 0 r rfl;have ih:=b4v rows (o+k) (λi r hr=>by have:=h (i+1) r (by simpa using hr);rw[show o+k+i*k=o+(i+1)*k by rw[Nat.add_mul];omega];exact this);simp only[List.flatten_cons,List.length_cons];rw[show(rows.length+1)*k=k+rows.length*k by rw[Nat.add_mul];omega,List.take_add,List.drop_drop];refine VRels.append ?_ ih;simpa using h0.2
theorem b5c(ok:EnvOk E):∀(n:Nat) (t:TypeId) (fuel:Nat) (cs:List Value) (x:DataW Unit×List MemPlace) (avs:List AV),DataW.trod enc E.P w base (λ_=>true) held fuel t cs=some x→b1q E n t x.1=some avs→
 VRels (Old w) w noP avs cs
 |0,t,fuel,cs,x,avs,_,hf=>by simp[b1q]at hf
 |n+1,t,0,cs,x,avs,h,hf=>by simp[DataW.trod]at h
 |n+1,t,fuel+1,cs,x,avs,h,hf=>by
  have ih:=b5c ok n;unfold b1q at hf;unfold DataW.trod at h;cases hu:E.und t with
  |none=>rw[hu]at hf;simp at hf
  |some dd=>
   have hP:=(ok.und t dd hu).1;have hszt:=a30 ok hu;rw[hu]at hf;rw[hP]at h;cases dd
   case bool=>
    obtain⟨b,rfl,rfl⟩:∃b,cs=[.bool b]∧x=(.lit (.bool b),[]):=by split at h<;>simp_all
    simp only[Option.some.injEq]at hf;subst hf;simp[VRels,VRel]
   case int k=>
    obtain⟨b,rfl,rfl⟩:∃b,cs=[.int k b]∧x=(.lit (.int k b),[]):=by split at h<;>simp_all
    simp only[cond_eq_ite]at hf;split at hf
    ·cases hf;simp[VRels,VRel]
    ·cases hf
   case string=>
    obtain⟨b,rfl,rfl⟩:∃b:ByteArray,cs=[.string b]∧x=(.lit (.string b.data.toList),[]):=by split at h<;>simp_all
    simp only[Option.some.injEq]at hf;subst hf;simp[VRels,VRel]
   case struct fs=>
    dsimp only at h;split at h
    case isFalse=>cases h
    rename_i hl;obtain⟨xs,hxs,rfl⟩:=a05 h;dsimp only at hf;split at hf
    case h_2=>cases hf
    rename_i avs' hff;rw[cond_eq_ite]at hf;split at hf
    case isFalse=>cases hf
    rename_i hl2;rw[Nat.beq_eq]at hl2;cases hf;have key:=b12 (E:=E) (I:=Old w) (w:=w) (cs:=cs) (f:=b1q E n)
     (g:=λf=>DataW.trod enc E.P w base (λ_=>true) held fuel f.type ((cs.drop f.offset).take (E.P.cellsOf f.type))) ?_ fs.toList 0 hxs hff
    ·rw[List.drop_zero,List.take_of_length_le (by omega)]at key;exact key
    ·intro x y avs hy hfa;have hund:∃dx,E.und x.type=some dx:=by
      cases n with
      |zero=>simp[b1q]at hfa
      |succ n=>unfold b1q at hfa;cases hux:E.und x.type with
       |none=>rw[hux]at hfa;simp at hfa
       |some dx=>exact⟨dx,rfl⟩
     obtain⟨dx,hdx⟩:=hund;rw[a30 ok hdx]at hy;exact ih x.type fuel _ y avs hy hfa
   case array m e=>
    dsimp only at h;split at h
    case isFalse=>cases h
    rename_i hl;obtain⟨xs,hxs,rfl⟩:=a05 h;dsimp only at hf;rw[cond_eq_ite]at hf;split at hf
    case isFalse=>cases hf
    rename_i hc;simp only[Bool.and_eq_true,Nat.beq_eq]at hc;obtain⟨rows,hrows,rfl⟩:=a05 hf;obtain⟨de,hde⟩:=Option.isSome_iff_exists.1 hc.1.1;have hsze:=a30 ok hde;have hlen:rows.length=m:=by rw[a8m hrows];simpa using hc.2
    have key:=b4v (I:=Old w) (w:=w) (cs:=cs) (k:=E.sz e) rows 0 (λi r hr=>by
     have hi:i<m:=by rw[←hlen];exact(List.getElem?_eq_some_iff.1 hr).1
     obtain⟨y,hy,hyi⟩:=b3n hxs i i (by simp[hi]);obtain⟨a,ha,hal,hai⟩:=a8n hrows i y.1 (by simp[hyi]);rw[hr]at hai;cases hai;refine⟨hal,?_⟩;rw[Nat.zero_add];rw[hsze]at hy;exact ih e fuel _ y r hy ha)
    rw[List.drop_zero,List.take_of_length_le (by rw[hlen];omega)]at key;exact key
   case slice e=>
    split at h
    all_goals first|(rename_i heq;cases heq;done)|(cases h;done)|skip
    ·cases h;simp only[Option.some.injEq]at hf;subst hf;simp[VRels,VRel]
    ·rename_i e' a len cap heq;cases heq;dsimp only at h;split at h
     case isFalse=>cases h
     rename_i hc;cases hm:((List.range len).mapM λi=>(w.cells? base (a.add (i*E.P.cellsOf e)) (E.P.cellsOf e)).bind (DataW.trod enc E.P w base (λ_=>true) held fuel e))with
     |none=>rw[hm]at h;simp at h
     |some elems=>
      rw[hm]at h;simp only[Option.bind_some,if_true]at h;obtain⟨rest,hrest,rfl⟩:=a05 h;dsimp only at hf;rw[cond_eq_ite]at hf;split at hf
      case isFalse=>cases hf
      rename_i hc2;simp only[Bool.and_eq_true,Nat.blt_eq,List.length_map]at hc2;obtain⟨rows,hrows,rfl⟩:=a05 hf;obtain⟨de,hde⟩:=Option.isSome_iff_exists.1 hc2.1.1;have hsze:=a30 ok hde;have hlr:rows.length=elems.length:=by rw[a8m hrows];simp
      have hle:elems.length=len:=by rw[b3m hm];simp
      have hlrest:rest.length=cap-len:=by rw[b3m hrest];simp
      have hat:∀i,i<len→∃cs' y,elems[i]?=some y∧cs'.length=E.sz e∧(∀j,j<E.sz e→w.cell? ((a.add (i*E.sz e)).add j)=cs'[j]?)∧DataW.trod enc E.P w base (λ_=>true) held fuel e cs'=some y:=by
       intro i hi;obtain⟨y,hy,hyi⟩:=b3n hm i i (by simp[hi]);rw[hsze]at hy;cases hcs:w.cells? base (a.add (i*E.sz e)) (E.sz e)with
       |none=>rw[hcs]at hy;simp at hy
       |some cs'=>rw[hcs]at hy;obtain⟨_,h2,h3⟩:=World.cells?_some hcs;exact⟨cs',y,hyi,h2,h3,by simpa using hy⟩
      have hspot:a.spot=none∧a.block<w.heap.size:=by
       obtain⟨cs0,y0,_,h1,h2,_⟩:=hat 0 (by omega);have h3:=h2 0 hc2.1.2;rw[Nat.zero_mul,show(a.add 0).add 0=a from by simp[Addr.add],z9e (by omega)]at h3;unfold World.cell? at h3;split at h3
       ·rename_i hb;refine⟨?_,(Array.getElem?_eq_some_iff.1 hb).1⟩;cases hs:a.spot with
        |none=>rfl
        |some _=>rw[hs]at h3;simp at h3
       ·cases h3
      simp only[VRels];refine⟨_,[],rfl,?_,rfl⟩;simp only[VRel];refine⟨a,cap,E.sz e,by rw[hlr,hle],by omega,λn hn=>by cases hn;simp;omega,.inr ⟨hspot.1,hspot.2,?_⟩⟩;have key:∀(rows':List (List AV)) (o:Nat),(∀(i:Nat) r,rows'[i]?=some r→r.length=E.sz e∧VAt (Old w) w noP r a.block (a.off+(o+i)*E.sz e))→VRows (Old w) w (E.sz e) noP rows' a.block (a.off+o*E.sz e):=by
       intro rows'
       induction rows' with
       |nil=>intro o _;simp[VRows]
       |cons r rs ihr=>intro o hh;have h0:=hh 0 r rfl;simp only[VRows];refine⟨h0.1,by simpa using h0.2,?_⟩;rw[show a.off+o*E.sz e+E.sz e=a.off+(o+1)*E.sz e by rw[Nat.add_mul];omega];refine ihr (o+1) (λi r hr=>?_);have:=hh (i+1) r (by simpa using hr);rw[show o+1+i=o+(i+1) by omega];exact this
      have:=key rows 0 (λi r hr=>by
       have hi:i<len:=by rw[←hle,←hlr];exact(List.getElem?_eq_some_iff.1 hr).1
       obtain⟨cs',y,h0,h1,h2,h3⟩:=hat i hi;obtain⟨av,ha,hal,hai⟩:=a8n hrows i y.1 (by simp[h0]);rw[hr]at hai;cases hai;refine⟨hal,?_⟩;rw[Nat.zero_add];refine b1e ?_ (ih e fuel _ y r h3 ha);intro j v hv;have hj:j<E.sz e:=by rw[←h1];exact(List.getElem?_eq_some_iff.1 hv).1
       have:=h2 j hj;rw[hv]at this;rw[←this]
       congr 1
       obtain⟨ab,ao,as⟩:=a;obtain⟨rfl,_⟩:=hspot;unfold Addr.add;split<;>split<;>simp_all)
      simpa using this
   all_goals (simp only at hf;first|(cases hf;done)|(split at hf<;>cases hf))
theorem holds_of_laid(ok:EnvOk E){laid:List (String×DataW Unit)}(h:laidMet E.P laid w)
 (hG:∀g cs,E.G g=some cs→∃x∈laid,E.P.globalNamed x.1=some g∧∃t,(E.P.globals[g]?).map (·.type)=some t∧b1q E 8 t x.2=some cs):Holds E w:=by
 obtain⟨ps,hv,hnd,hcell⟩:=h;have hall:∀(l:List (String×DataW Unit)) ps,DataW.LaidVars E.P w l ps→∀x∈l,∃g t cs fuel p,E.P.globalNamed x.1=some g∧(E.P.globals[g]?).map (·.type)=some t∧w.var? E.P x.1=some cs∧DataW.trod (λ_=>()) E.P w 0 (λ_=>true) false fuel t cs.toList=some (x.2,p):=by
  intro l
  induction l with
  |nil=>intro ps _ x hx;simp at hx
  |cons y r ih=>
   intro ps hv x hx;obtain⟨n,d⟩:=y;simp only[DataW.LaidVars]at hv;obtain⟨g,t,cs,fuel,p,q,h1,h2,h3,h4,h5,_⟩:=hv;simp only[List.mem_cons]at hx;rcases hx with rfl|hx
   ·exact⟨g,t,cs,fuel,p,h1,h2,h3,h4⟩
   ·exact ih q h5 x hx
 intro g cs hg;obtain⟨x,hx,h1,t,h2,h3⟩:=hG g cs hg;obtain⟨g',t',cs',fuel,p,k1,k2,k3,k4⟩:=hall laid ps hv x hx;obtain rfl:g'=g:=z9o (k1.symm.trans h1);obtain rfl:t'=t:=z9o (k2.symm.trans h2);have hr:=b5c ok 8 t' fuel _ (x.2,p) cs k4 h3;unfold World.var? at k3;rw[k1]at k3;simp only[Option.bind_some]at k3;split at k3
 case h_2=>cases k3
 rename_i cs2 e fz hheap;cases k3;refine⟨(Array.getElem?_eq_some_iff.1 hheap).1,?_⟩;refine VAt.of_cells (cs:=cs'.toList) (CellsAt.of_heap hheap ?_) hr;intro j v hv;simpa using hv
end
end Go.Ax
/- AxLaw: from a run of a law's body that answers true, for all c73 arguments, to what a row asks. -/
namespace Go.Ax
open Go.ChangeShapes Go.WideShapes Go.RowKit
section
variable {E:Env}{H:Type}{enc:TypeId×Value→H}
theorem a7h{P:Program}(hl:laidOutB P=true){W W':World}(hb:Below W.heap.size W W'){sp:Nat→Bool}:∀(ts:List TypeId) (vs:List Value) (ds:List (DataW H)) (ps:List MemPlace),
 (ts.all λt=>P.readableRec t&&decide (t<P.types.size))=true→(∀p∈ps,p.block<W.heap.size)→(∀p∈ps,sp p.block=true)→
 DataW.TrodAll enc P W 0 (λ_=>true) true ts vs ds ps→DataW.TrodAll enc P W' 0 sp true ts vs ds ps
 | [],vs,ds,ps,_,_,_,h=>by cases vs<;>cases ds<;>simp only[DataW.TrodAll]at h⊢<;>exact h
 |t::ts,vs,ds,ps,hr,hlt,hs,h=>by
  cases vs with
  |nil=>simp[DataW.TrodAll]at h
  |cons v vs=>
   cases ds with
   |nil=>simp[DataW.TrodAll]at h
   |cons d ds=>simp only[DataW.TrodAll]at h⊢;obtain⟨p,q,h1,h2,rfl⟩:=h;simp only[List.all_cons,Bool.and_eq_true,decide_eq_true_eq]at hr;refine⟨p,q,?_,a7h hl hb ts vs ds q hr.2 (λx hx=>hlt x (by simp[hx])) (λx hx=>hs x (by simp[hx])) h2,rfl⟩;exact WideElems.Trod_stays hl hr.1.1 hr.1.2 h1 (λx hx=>hb.same (hlt x (by simp[hx]))) (λx hx=>hs x (by simp[hx]))
theorem c4v{P:Program}(hl:laidOutB P=true){f:Func}{s:ChangeSpec}(hvs:s.vars=[]){n:Nat}(hn:f.params.toList.length=n)
 (hs:∀ds:List (DataW H),ds.length=n→(s.fn H ds).results=[.lit (.bool true)]∧(s.fn H ds).args=ds∧(s.fn H ds).vars=[]){tb:TypeId}(hres:f.resultTypes = #[tb])(htb:P.underlying tb=some .bool)
 (hpar:(f.params.toList.all λt=>P.readableRec t&&decide (t<P.types.size))=true)
 {W W':World}{args:Array Value}{ds gs:List (DataW H)}{before:List MemPlace}(hW:DataW.Whole enc P f.params.toList s.vars false W args.toList ds gs before)(hb:Below W.heap.size W W') :
 s.post enc P f false true false false W args (.bool true) W':=by
 have hlt:∀p∈before,p.block<W.heap.size:=λp hp=>hW.lt p hp;have hold:∀p∈before,(λb=>decide (b<W.heap.size)) p.block=true:=λp hp=>by simpa using hlt p hp
 have hW0:=hW;obtain⟨p,q,hA,hV,rfl,hz,hnd⟩:=hW;rw[hvs]at hV;obtain⟨rfl,rfl⟩:=trodVars_none hV;have hlen:ds.length=n:=by
  have:∀(ts:List TypeId) (vs:List Value) (ds:List (DataW H)) (ps:List MemPlace),DataW.TrodAll enc P W 0 (λ_=>true) true ts vs ds ps→ds.length=ts.length:=by
   intro ts
   induction ts with
   |nil=>intro vs ds ps h;cases vs<;>cases ds<;>simp[DataW.TrodAll]at h<;>rfl
   |cons t ts ih=>
    intro vs ds ps h;cases vs with
    |nil=>simp[DataW.TrodAll]at h
    |cons v vs=>cases ds with
     |nil=>simp[DataW.TrodAll]at h
     |cons d ds=>simp only[DataW.TrodAll]at h;obtain⟨p,q,_,h2,_⟩:=h;simp[ih vs ds q h2]
  rw[this _ _ _ _ hA,hn]
 obtain⟨s1,s2,s3⟩:=hs (ds++[]) (by simpa using hlen);rw[List.append_nil]at hlt hold;have hargs:∀sp:Nat→Bool,(∀x∈p,sp x.block=true)→DataW.TrodAll enc P W' 0 sp true f.params.toList args.toList (s.fn H (ds++[])).args p:=by intro sp hsp;rw[s2,List.append_nil];exact a7h hl hb _ _ _ _ hpar hlt hsp hA
 have hvars:∀sp:Nat→Bool,DataW.TrodVars enc P W' sp s.vars (s.fn H (ds++[])).vars []:=by intro sp;rw[s3,hvs];rfl
 have hr1:∀(b:Nat) (sp:Nat→Bool) (hd:Bool),DataW.TrodAll enc P W' b sp hd f.resultTypes.toList ((Value.bool true).resultList f.resultTypes.size) (s.fn H (ds++[])).results []:=by intro b sp hd;rw[s1,hres];exact⟨[],[],⟨1,by simp[DataW.trod,htb,Value.cells]⟩,rfl,rfl⟩
 refine⟨ds,[],p++[],[],p,[],hW0,hr1 _ _ _,hargs _ hold,hvars _,World.keptBut_mono (λx hx=>⟨hx,?_⟩) (hb.frame (·∈p++[])),λ_=>?_⟩
 ·simpa using hx
 ·refine⟨?_,_,_,([]++p)++[],⟨[]++p,[],trodAll_append (hargs _ (λ_ _=>rfl)) (hr1 _ _ _),hvars _,rfl,?_,?_⟩,?_⟩
  ·intro j t r hj hv;rw[hres]at hj hv
   match j,hj,hv with
   |0,hj,hv=>simp[Value.resultList]at hj hv;subst hj;subst hv;exact okWide_bool_mk htb true
  ·intro b off hp;have hin:MemPlace.cell b off∈p:=by simpa using hp
   rw[hb.frozen (hlt _ hin)];exact hz b off (by simpa using hin)
  ·intro ha;cases ha
  ·intro x hx _;simpa using hx
theorem law_contract(ok:EnvOk E)(hl:laidOutB E.P=true){f:FuncId}{fn:Func}{run:List AV→a03→Option (AV×a03)}(hfy:f≠yId)(hf:a81 E f run){m:Nat}
 (hread:(fn.params.toList.all (a3o E m))=true)(hrun:∀args,TypAs E m fn.params.toList args→∃H',run args []=some (.bool true,H'))
 {s:ChangeSpec}(hvs:s.vars=[]){n:Nat}(hn:fn.params.toList.length=n)
 (hs:∀ds:List (DataW H),ds.length=n→(s.fn H ds).results=[.lit (.bool true)]∧(s.fn H ds).args=ds∧(s.fn H ds).vars=[]){tb:TypeId}(hres:fn.resultTypes = #[tb])(htb:E.P.underlying tb=some .bool)
 (hpar:(fn.params.toList.all λt=>E.P.readableRec t&&decide (t<E.P.types.size))=true)
 (W:World)(base:Nat)(args:Array Value)(ds gs:List (DataW H))(before:List MemPlace)
 (hval:∀(j:Nat) t v,fn.params[j]?=some t→args[j]?=some v→Value.okWide E.P W .any base t v)
 (hW:DataW.Whole enc E.P fn.params.toList s.vars false W args.toList ds gs before)(hG:Holds E W) :
 Calls E.P f args W λe W'=>∃v,e = .returned v∧s.post enc E.P fn false true false false W args v W':=by
 have hA:=hW;obtain⟨p,q,hA,_⟩:=hA;obtain⟨avs,h1,h2⟩:=c39 (b0:=base) ok (n:=m) fn.params.toList args.toList ds p hA (λj t v ht hv=>hval j t v (by simpa using ht) (by simpa using hv)) hread;obtain⟨H',hr⟩:=hrun avs h2;have:=c46 hfy hf hr hG h1;rw[Array.toArray_toList]at this;refine this.mono ?_
 rintro e W' ⟨rfl,hb⟩
 exact⟨_,rfl,c4v hl hvs hn hs hres htb hpar hW hb⟩
end
end Go.Ax
/- AxSem: what a call comes to, a4a fuel for the calls: a function 'sem', closed under running a body over itself. No condition. -/
namespace Go.Ax
abbrev CallF:=FuncId→List AV→a03→Option (AV×a03)
def CallF.le(c c':CallF):Prop:=∀g a H r,c g a H=some r→c' g a H=some r
theorem a6e{r r':List AV→a03→Option (AV×a03)}(h:∀a H x,r a H=some x→r' a H=some x){args:List AV}{H:a03}{x:AV×a03×List Nat}
 (hc:a26 r args H=some x):a26 r' args H=some x:=by
 unfold a26 at hc⊢;simp only at hc⊢;rw[cond_eq_ite]at hc⊢;split at hc
 case isFalse=>cases hc
 rename_i h1;rw[if_pos h1];split at hc
 case h_2=>cases hc
 rename_i v H1 hr;rw[h _ _ _ hr];exact hc
theorem b5b{r r':List AV→a03→Option (AV×a03)}(h:∀a H x,r a H=some x→r' a H=some x){args:List AV}{H:a03}{x:AV×a03×List Nat}
 (hc:a68 r args H=some x):a68 r' args H=some x:=by
 unfold a68 at hc⊢;split at hc
 case h_2=>cases hc
 rename_i args' h1;split at hc
 case h_2=>cases hc
 rename_i v H1 hr;rw[h _ _ _ hr];exact hc
section
variable {E:Env}{draw:Bool}{N:Nat}{c c':CallF}(hc:CallF.le c c')
include hc
theorem c0m{f:AV}{args:List AV}{H:a03}{x:AV×a03×List Nat}(h:a0o E draw c f args H=some x):a0o E draw c' f args H=some x:=by
 unfold a0o at h⊢;split at h
 case h_3=>cases h
 case h_2=>
  split at h
  case h_2=>cases h
  rename_i v H' σ hr;rw[a6e (λa H x=>hc yId a H x) hr];exact h
 rename_i g fs cs;rw[cond_eq_ite]at h⊢;split at h
 ·rename_i h1;rw[if_pos h1];rw[cond_eq_ite]at h⊢;split at h
  ·rename_i h2;rw[if_pos h2];exact b5b (λa H x=>hc g a H x) h
  ·rename_i h2;rw[if_neg h2];exact h
 ·rename_i h1;rw[if_neg h1];rw[cond_eq_ite]at h⊢;split at h
  case isFalse=>cases h
  rename_i h2;rw[if_pos h2];split at h
  case h_2=>cases h
  rename_i v H' σ hr;rw[a6e (λa H x=>hc g a H x) hr];exact h
theorem b6g{F:Frm}{H:a03}{op:Op}{x:AV×a03×LogE}(h:a0e E draw c F H op=some x):a0e E draw c' F H op=some x:=by
 unfold a0e at h⊢;split at h
 ·split at h
  case h_2=>cases h
  rename_i v H' σ hr;rw[c0m hc hr];exact h
 ·exact h
theorem b02{R:Type}{all:List Oper}{k k':Frm→a03→Option R}(hk:∀F H r,k F H=some r→k' F H=some r):∀(ops:List Oper) (log:List LogE) (F:Frm) (H:a03) {r:R},
 a1q E draw N c all ops log F H k=some r→a1q E draw N c' all ops log F H k'=some r:=by
 intro ops
 induction ops with
 |nil=>
  intro log F H r h;unfold a1q at h⊢;rw[cond_eq_ite]at h⊢;split at h
  case isFalse=>cases h
  rename_i h1;rw[if_pos h1];exact hk _ _ _ h
 |cons o rest ih=>
  have step:∀(log:List LogE) (F F':Frm) (H:a03) (op:Op) (r:R),(match a0e E draw c F H op with
   |some (v,H',l)=>a1q E draw N c all rest (l::log) (a2o F' o.dst v) H' k
   |none=>none)=some r→(match a0e E draw c' F H op with
   |some (v,H',l)=>a1q E draw N c' all rest (l::log) (a2o F' o.dst v) H' k'
   |none=>none)=some r:=by
   intro log F F' H op r h;split at h
   case h_2=>cases h
   rename_i v H' l hs;rw[b6g hc hs];exact ih _ _ _ h
  intro log F H r h;unfold a1q at h⊢;rw[cond_eq_ite]at h⊢;split at h
  case isFalse=>cases h
  rename_i h1;rw[if_pos h1];split at h
  ·exact step _ _ _ _ _ _ h
  ·rename_i j want hg;split at h
   ·cases h
   ·rename_i d hd;split at h
    ·rename_i b hb;rw[cond_eq_ite]at h⊢;split at h
     ·rename_i hbt;rw[if_pos hbt];rw[cond_eq_ite]at h⊢;split at h
      ·rename_i hw;rw[if_pos hw];exact step _ _ _ _ _ _ h
      ·rename_i hw;rw[if_neg hw];exact ih _ _ _ h
     ·rename_i hbt;rw[if_neg hbt];rw[cond_eq_ite]at h⊢;split at h
      ·rename_i hw;rw[if_pos hw];exact ih _ _ _ h
      ·rename_i hw;rw[if_neg hw];exact step _ _ _ _ _ _ h
    ·exact ih _ _ _ h
    ·cases h
omit hc in
theorem b2f{m0:Nat}{keep:List Nat}{R:Type}{b b':Frm→a03→(AExit→Frm→a03→Option R)→Option R}
 (hb:∀F H (k k':AExit→Frm→a03→Option R),(∀e F H r,k e F H=some r→k' e F H=some r)→∀r,b F H k=some r→b' F H k'=some r):∀(n n':Nat),n≤n'→∀(F:Frm) (H:a03) (k k':AExit→Frm→a03→Option R),(∀e F H r,k e F H=some r→k' e F H=some r)→∀{r:R},
 a9h m0 keep b n F H k=some r→a9h m0 keep b' n' F H k'=some r
 |0,_,_,F,H,k,k',_,r,h=>by simp[a9h]at h
 |n+1,0,hn,F,H,k,k',_,r,h=>by omega
 |n+1,n'+1,hn,F,H,k,k',hk,r,h=>by
  unfold a9h at h⊢;simp only at h⊢;rw[cond_eq_ite]at h⊢;split at h
  case isFalse=>cases h
  rename_i h1;rw[if_pos h1];refine hb _ _ _ _ ?_ r h;intro e F H r h;cases e with
  |normal=>exact b2f hb n n' (by omega) F H k k' hk h
  |exit id=>exact hk _ _ _ _ h
  |ret=>exact hk _ _ _ _ h
omit hc in
theorem b05{m0 it:Nat}{keep:List Nat}{ks acc:List Int}{b b':Frm→a03→(AExit→Frm→a03→Option R3)→Option R3}
 (hb:∀F H (k k':AExit→Frm→a03→Option R3),(∀e F H r,k e F H=some r→k' e F H=some r)→∀r,b F H k=some r→b' F H k'=some r){a:Option Int}{F:Frm}{H:a03}{x:R3}(h:a90 m0 it keep ks acc b a F H=some x):a90 m0 it keep ks acc b' a F H=some x:=by
 unfold a90 at h⊢;split at h
 case h_2=>cases h
 rename_i F1 H1 hg;split at h
 case h_2=>cases h
 rename_i H2 ha;exact hb _ _ _ _ (λ_ _ _ _ h=>h) _ h
omit hc in
theorem b0a{m0 it:Nat}{keep:List Nat}{ks:List Int}{b b':Frm→a03→(AExit→Frm→a03→Option R3)→Option R3}
 (hb:∀F H (k k':AExit→Frm→a03→Option R3),(∀e F H r,k e F H=some r→k' e F H=some r)→∀r,b F H k=some r→b' F H k'=some r):∀{o acc:List Int} {F:Frm} {H:a03} {x:R3},a40 m0 it keep ks b acc o F H=some x→a40 m0 it keep ks b' acc o F H=some x
 | [],acc,F,H,x,h=>by
  unfold a40 at h⊢;split at h
  ·cases h
  ·rename_i e F' H' hne hr;rw[b05 hb hr];cases e with
   |normal=>exact(hne rfl).elim
   |exit id=>exact h
   |ret=>exact h
  ·cases h
 |i::o,acc,F,H,x,h=>by
  unfold a40 at h⊢;split at h
  case h_2=>cases h
  rename_i F' H' hr;rw[b05 hb hr];exact b0a hb h
omit hc in
theorem c03{m0 it:Nat}{keep:List Nat}{R:Type}{b b':Frm→a03→(AExit→Frm→a03→Option R3)→Option R3}
 (hb:∀F H (k k':AExit→Frm→a03→Option R3),(∀e F H r,k e F H=some r→k' e F H=some r)→∀r,b F H k=some r→b' F H k'=some r){F:Frm}{H:a03}{k k':AExit→Frm→a03→Option R}(hk:∀e F H r,k e F H=some r→k' e F H=some r){r:R}
 (h:c04 m0 it keep b F H k=some r):c04 m0 it keep b' F H k'=some r:=by
 unfold c04 at h⊢;split at h
 case h_2=>cases h
 rename_i ks hks;split at h
 case h_2=>cases h
 rename_i r0 rs hmap;rw[cond_eq_ite]at h;split at h
 case isFalse=>cases h
 rename_i hall;have hm:(b2b ks).map (λo=>a40 m0 it keep ks b' [] o F H)=some r0::rs:=by
  rw[←hmap];refine List.map_congr_left λo ho=>?_;have hm:=List.mem_map_of_mem (f:=λo=>a40 m0 it keep ks b [] o F H) ho;rw[hmap]at hm;have he:a40 m0 it keep ks b [] o F H=some r0:=by
   rcases List.mem_cons.1 hm with h|h
   ·exact h
   ·exact b7w (List.all_eq_true.1 hall _ h)
  rw[he];exact b0a hb he
 rw[hm];simp only[hall,cond_true];exact hk _ _ _ _ h
theorem a4l{m0 lf lf':Nat}(hl:lf≤lf'){keep:Nat→List Nat}:∀(code:Code) {R:Type} (cur:Nat) (F:Frm) (H:a03) (k k':AExit→Frm→a03→Option R),(∀e F H r,k e F H=some r→k' e F H=some r)→∀{r:R},
 a2v E m0 N keep c lf cur code F H k=some r→a2v E m0 N keep c' lf' cur code F H k'=some r:=by
 intro code
 induction code with
 |skip=>intro R cur F H k k' hk r h;unfold a2v at h⊢;exact hk _ _ _ _ h
 |label l=>intro R cur F H k k' hk r h;unfold a2v at h⊢;exact hk _ _ _ _ h
 |exit id=>intro R cur F H k k' hk r h;unfold a2v at h⊢;exact hk _ _ _ _ h
 |ret=>intro R cur F H k k' hk r h;unfold a2v at h⊢;exact hk _ _ _ _ h
 |region id ops draw=>
  intro R cur F H k k' hk r h;unfold a2v at h⊢;cases hn:c4m ops.toList with
  |none=>rw[hn]at h;exact b02 hc (λF H r h=>hk _ _ _ _ h) _ _ _ _ h
  |some x=>
   obtain⟨it,nx,rest⟩:=x;rw[hn]at h;simp only[cond_eq_ite]at h⊢;split at h
   case isTrue=>cases h
   rename_i h1;rw[if_neg h1];split at h
   case h_2=>cases h
   rename_i v H' hx;exact b02 hc (λF H r h=>hk _ _ _ _ h) _ _ _ _ h
 |seq x y ihx ihy=>
  intro R cur F H k k' hk r h;unfold a2v at h⊢;refine ihx _ _ _ _ _ ?_ h;intro e F H r h;cases e with
  |normal=>exact ihy _ _ _ _ _ hk h
  |exit id=>exact hk _ _ _ _ h
  |ret=>exact hk _ _ _ _ h
 |cond x y z ihy ihz=>
  intro R cur F H k k' hk r h;unfold a2v at h⊢;split at h
  case h_2=>cases h
  rename_i t ht;simp only[cond_eq_ite]at h⊢;split at h
  ·rename_i h1;rw[if_pos h1];exact ihy _ _ _ _ _ hk h
  ·rename_i h1;rw[if_neg h1];exact ihz _ _ _ _ _ hk h
 |block id b ih=>
  intro R cur F H k k' hk r h;unfold a2v at h⊢;refine ih _ _ _ _ _ ?_ h;intro e F H r h;cases e with
  |normal=>exact hk _ _ _ _ h
  |exit id'=>
   simp only[cond_eq_ite]at h⊢;split at h
   ·rename_i h1;rw[if_pos h1];exact hk _ _ _ _ h
   ·rename_i h1;rw[if_neg h1];exact hk _ _ _ _ h
  |ret=>exact hk _ _ _ _ h
 |loop b ih=>
  intro R cur F H k k' hk r h;unfold a2v at h⊢;cases hn:a7j b with
  |some it=>rw[hn]at h;exact c03 (λF H k k' hk r h=>ih _ F H k k' hk h) hk h
  |none=>
  rw[hn]at h;dsimp only at h⊢;refine b2f (λF H k k' hk r h=>ih _ F H k k' hk h) _ _ hl F H _ _ ?_ h;intro e F H r h;rw[cond_eq_ite]at h⊢;split at h
  ·rename_i h1;rw[if_pos h1];exact hk _ _ _ _ h
  ·rename_i h1;rw[if_neg h1];exact hk _ _ _ _ h
 |scope b ih=>intro R cur F H k k' hk r h;unfold a2v at h⊢;exact ih _ _ _ _ _ hk h
 |rangeFunc f ps as b=>
  intro R cur F H k k' hk r h;unfold a2v at h⊢;split at h
  case h_2=>cases h
  rename_i g fs cs y _ _;rw[cond_eq_ite]at h⊢;split at h
  case isFalse=>cases h
  rename_i h1;rw[if_pos h1];split at h
  case h_2=>cases h
  rename_i v H2 σ hr;rw[a6e (λa H x=>hc g a H x) hr];dsimp only;split at h
  ·exact hk _ _ _ _ h
  ·exact hk _ _ _ _ h
  ·exact hk _ _ _ _ h
  ·cases h
 |_=>intro R cur F H k k' hk r h;simp[a2v]at h
theorem b3i{lf lf':Nat}(hl:lf≤lf'){args:List AV}{H:a03}{r:AV×a03}(h:a6m E c lf args H=some r):a6m E c' lf' args H=some r:=by
 unfold a6m at h⊢;split at h
 case h_2=>cases h
 rename_i b vs;split at h
 case h_2=>cases h
 rename_i y F hb;split at h
 case h_2=>cases h
 rename_i ri hri;rw[cond_eq_ite]at h⊢;split at h
 case isFalse=>cases h
 rename_i h1;rw[if_pos h1];refine a4l hc hl _ _ _ _ _ _ ?_ h;intro e F H r h;cases e with
 |normal=>
  dsimp only at h⊢;split at h
  case h_2=>cases h
  rename_i H1 hy;exact a4l hc hl _ _ _ _ _ _ (λ_ _ _ _ h=>h) h
 |exit id=>exact h
 |ret=>exact h
theorem c3n{m0 lf lf':Nat}(hl:lf≤lf'){keep:Nat→List Nat}:∀(code:Code) {R:Type} (cur:Nat) (F:Frm) (H:a03) (k k':AExit→Frm→a03→Option R),(∀e F H r,k e F H=some r→k' e F H=some r)→∀{r:R},
 c96 E m0 N keep c lf cur code F H k=some r→c96 E m0 N keep c' lf' cur code F H k'=some r:=by
 intro code
 induction code with
 |seq x y ihx ihy=>
  intro R cur F H k k' hk r h;unfold c96 at h⊢;refine ihx _ _ _ _ _ ?_ h;intro e F H r h;cases e with
  |normal=>exact ihy _ _ _ _ _ hk h
  |exit id=>exact hk _ _ _ _ h
  |ret=>exact hk _ _ _ _ h
 |_=>intro R cur F H k k' hk r h;exact a4l hc hl _ _ _ _ _ _ hk h
theorem c3o{m0 lf lf' j:Nat}(hl:lf≤lf'){keep:Nat→List Nat}:∀(n:Nat) (code:Code) {R:Type} (cur:Nat) (F:Frm) (H:a03) (k k':AExit→Frm→a03→Option R),(∀e F H r,k e F H=some r→k' e F H=some r)→∀{r:R},
 d2s E m0 N keep c lf j n cur code F H k=some r→d2s E m0 N keep c' lf' j n cur code F H k'=some r:=by
 intro n
 induction n with
 |zero=>intro code R cur F H k k' hk r h;exact a4l hc hl _ _ _ _ _ _ hk h
 |succ n ih=>
  intro code;cases code with
  |seq x y=>
   intro R cur F H k k' hk r h;refine a4l hc hl x cur F H _ _ ?_ h;intro e F H r h;cases e with
   |normal=>exact ih _ _ _ _ _ _ hk h
   |exit id=>exact hk _ _ _ _ h
   |ret=>exact hk _ _ _ _ h
  |_=>intro R cur F H k k' hk r h;exact a4l hc hl _ _ _ _ _ _ hk h
theorem a88{lf lf':Nat}(hl:lf≤lf'){g:FuncId}{args:List AV}{H:a03}{r:AV×a03}(h:a9f E c lf g args H=some r):a9f E c' lf' g args H=some r:=by
 unfold a9f at h⊢;split at h
 ·exact h
 split at h
 ·skip
  rw[cond_eq_ite]at h⊢;split at h
  case isFalse=>cases h
  rename_i h1;rw[if_pos h1];exact b3i hc hl h
 rename_i i hi;rw[cond_eq_ite]at h⊢;split at h
 case isFalse=>cases h
 rename_i h1;rw[if_pos h1];unfold d4d at h⊢;cases hz:E.zf g with
 |true=>
  rw[hz,cond_true]at h;rw[cond_true];cases hzn:E.zn g with
  |zero=>rw[hzn]at h;exact c3n hc hl _ _ _ _ _ _ (λ_ _ _ _ h=>h) h
  |succ n=>rw[hzn]at h;exact c3o hc hl _ _ _ _ _ _ _ (λ_ _ _ _ h=>h) h
 |false=>rw[hz,cond_false]at h;rw[cond_false];exact a4l hc hl _ _ _ _ _ _ (λ_ _ _ _ h=>h) h
end
inductive Der(E:Env)(M:List Fact):FuncId→List AV→a03→AV×a03→Prop
 |run (g:FuncId) (args:List AV) (H:a03) (r:AV×a03) (c:CallF) (lf:Nat) (hc:∀g a H r,c g a H=some r→Der E M g a H r)
  (hno:∀x∈M,x.g≠g) (h:a9f E c lf g args H=some r):Der E M g args H r
 |fact (x:Fact) (hx:x∈M) (hfirst:∀y∈M,y.g=x.g→y.args=x.args→y.v=x.v):Der E M x.g x.args [] (x.v,[])
open Classical in
noncomputable def d46(c c':CallF):CallF:=λg a H=>match c g a H with|some r=>some r|none=>c' g a H
theorem Der.one{E:Env}{M:List Fact}{g:FuncId}{args:List AV}{H:a03}{r r':AV×a03}(h:Der E M g args H r)(h':Der E M g args H r'):r=r':=by
 induction h generalizing r' with
 |run g args H r c lf hc hno h ih=>
  cases h' with
  |run _ _ _ _ c' lf' hc' hno' h'=>
   have l1:CallF.le c (d46 c c'):=by intro g a H r h;simp[d46,h]
   have l2:CallF.le c' (d46 c c'):=by
    intro g a H r h;unfold d46;cases hcc:c g a H with
    |none=>exact h
    |some s=>exact congrArg some (ih g a H s hcc (hc' g a H r h))
   have e1:=a88 l1 (Nat.le_max_left lf lf') h;have e2:=a88 l2 (Nat.le_max_right lf lf') h';exact z9o (e1.symm.trans e2)
  |fact x hx=>exact absurd rfl (hno x hx)
 |fact x hx hf=>
  generalize hg:x.g=g at h';generalize ha:x.args=args at h';generalize hH:([]:a03)=H at h';cases h' with
  |run _ _ _ _ c' lf' hc' hno' h'=>exact absurd hg (hno' x hx)
  |fact y hy hf'=>rw[hf y hy hg.symm ha.symm]
theorem Der.ok{E:Env}(ok:EnvOk E)(hdr:DrOk E){M:List Fact}(hM:∀x∈M,c6x E x){g:FuncId}{args:List AV}{H:a03}{r:AV×a03}(h:Der E M g args H r) :
 a81 E g (λa H'=>open Classical in if a=args∧H'=H then some r else none):=by
 induction h with
 |run g args H r c lf hc hno h ih=>
  have hcall:a2n E c:=by intro g a H v H' hr;have:=ih g a H (v,H') hr;exact this a H v H' (by simp)
  intro a H' v H'' hr;dsimp only at hr;split at hr
  ·rename_i hh;obtain⟨rfl,rfl⟩:=hh;cases hr;exact c4c ok hdr hcall lf g a H' v H'' h
  ·cases hr
 |fact x hx hf=>
  intro a H' v H'' hr;dsimp only at hr;split at hr
  ·rename_i hh;obtain⟨rfl,rfl⟩:=hh;cases hr;intro I K ρ w cargs h1 h2 h3;exact hM x hx I K ρ w cargs h1 h2 h3
  ·cases hr
open Classical in
noncomputable def sem(E:Env)(M:List Fact):CallF:=λg args H=>if h:∃r,Der E M g args H r then some h.choose else none
section
variable {E:Env}{M:List Fact}
theorem b6m{g:FuncId}{args:List AV}{H:a03}{r:AV×a03}:sem E M g args H=some r↔Der E M g args H r:=by
 unfold sem;constructor
 ·intro h;split at h
  ·rename_i hh;cases h;exact hh.choose_spec
  ·cases h
 ·intro h;have hh:∃r,Der E M g args H r:=⟨r,h⟩
  rw[dif_pos hh];exact congrArg some (Der.one hh.choose_spec h)
theorem c1i{g:FuncId}{args:List AV}{H:a03}{r:AV×a03}(hno:∀x∈M,x.g≠g)(lf:Nat)(h:a9f E (sem E M) lf g args H=some r):sem E M g args H=some r:=b6m.2 (.run g args H r (sem E M) lf (λ_ _ _ _ h=>b6m.1 h) hno h)
theorem sem_ok(ok:EnvOk E)(hdr:DrOk E)(hM:∀x∈M,c6x E x):a2n E (sem E M):=by intro g args H v H' h;exact(Der.ok ok hdr hM (b6m.1 h)) args H v H' (by simp)
end
end Go.Ax
/- AxEv: runs of statements in direct style: what a statement comes to, for a32 loop fuel that is great enough. -/
namespace Go.Ax
def c6i{α β:Type}(x:Option α)(f:α→β)(d:β):β:=match x with|some a=>f a|none=>d
def a0a{α β:Type}(x:Option α)(f:α→Option β):Option β:=match x with|some a=>f a|none=>none
@[go_sem] theorem c9y{α β:Type}(a:α)(f:α→Option β):a0a (some a) f=f a:=by rfl
@[congr] theorem c81{α β:Type}{x y:Option α}{f:α→Option β}(h:x=y):a0a x f=a0a y f:=by rw[h]
def a7i(E:Env)(draw:Bool)(N:Nat)(call:CallF)(all:List Oper):List Oper→List LogE→Frm→a03→Option (Frm×a03×List LogE)
 | [],log,F,H=>some (F,H,log)
 |o::rest,log,F,H=>
  bif a58 N o.dst then
   match o.guard with
   |none=>a0a (a0e E draw call F H o.op) λx=>a7i E draw N call all rest (x.2.2::log) (a2o F o.dst x.1) x.2.1
   |some (j,want)=>match a22 all j with
    |none=>none
    |some d=>match a2d F d with
     |.bool b=>bif b then
      (bif want then a0a (a0e E draw call (a2o F (some d) (.bool true)) H o.op) λx=>a7i E draw N call all rest (x.2.2::log) (a2o (a2o F (some d) (.bool true)) o.dst x.1) x.2.1
      else a7i E draw N call all rest (⟨[],[]⟩::log) (a2o (a2o F (some d) (.bool true)) o.dst (.tuple [])) H)
      else
       (bif want then a7i E draw N call all rest (⟨[],[]⟩::log) (a2o (a2o F (some d) (.bool false)) o.dst (.tuple [])) H
       else a0a (a0e E draw call (a2o F (some d) (.bool false)) H o.op) λx=>a7i E draw N call all rest (x.2.2::log) (a2o (a2o F (some d) (.bool false)) o.dst x.1) x.2.1)
     |.tuple []=>a7i E draw N call all rest (⟨[],[]⟩::log) (a2o F o.dst (.tuple [])) H
     |_=>none
  else none
theorem b6o{E:Env}{draw:Bool}{N:Nat}{call:CallF}{all:List Oper}{R:Type}{k:Frm→a03→Option R}:∀(ops:List Oper) (log:List LogE) (F:Frm) (H:a03),
 a1q E draw N call all ops log F H k=(match a7i E draw N call all ops log F H with|some (F',H',log')=>(bif !draw||logOk all log'.length log' then k F' H' else none)|none=>none):=by
 intro ops
 induction ops with
 |nil=>intro log F H;rfl
 |cons o rest ih=>
  intro log F H;have step:∀(F1 F2:Frm),(match a0e E draw call F1 H o.op with
   |some (v,H',l)=>a1q E draw N call all rest (l::log) (a2o F2 o.dst v) H' k
   |none=>none)=(match a0a (a0e E draw call F1 H o.op) λx=>a7i E draw N call all rest (x.2.2::log) (a2o F2 o.dst x.1) x.2.1 with|some (F',H',log')=>(bif !draw||logOk all log'.length log' then k F' H' else none)|none=>none):=by
   intro F1 F2;cases a0e E draw call F1 H o.op with
   |none=>rfl
   |some x=>exact ih _ _ _
  obtain⟨dst,op,ty,pos,after,guard⟩:=o;unfold a1q a7i;cases hd:a58 N dst with
  |false=>rfl
  |true=>
   cases guard with
   |none=>exact step F F
   |some g=>
    obtain⟨j,want⟩:=g;simp only[cond_true];cases hs:a22 all j with
    |none=>rfl
    |some d=>
     simp only;cases hv:a2d F d with
     |bool b=>cases b<;>cases want<;>simp only[cond_true,cond_false]<;>first|exact step _ _|exact ih _ _ _
     |tuple vs=>cases vs with
      |nil=>exact ih _ _ _
      |cons a r=>rfl
     |_=>rfl
structure Cx where
 E:Env
 M:List Fact
 m0:Nat
 N:Nat
 keep:Nat→List Nat
 cur:Nat
def Ev(x:Cx)(c:Code)(F:Frm)(H:a03)(r:AExit×Frm×a03):Prop:=∃n0,∀lf,n0≤lf→∀(R:Type) (k:AExit→Frm→a03→Option R),a2v x.E x.m0 x.N x.keep (sem x.E x.M) lf x.cur c F H k=k r.1 r.2.1 r.2.2
section
variable {x:Cx}{F F1:Frm}{H H1:a03}{r:AExit×Frm×a03}
theorem Ev.skip:Ev x .skip F H (.normal,F,H):=⟨0,λ_ _ _ _=>rfl⟩
theorem Ev.label{l}:Ev x (.label l) F H (.normal,F,H):=⟨0,λ_ _ _ _=>rfl⟩
theorem Ev.leave{id}:Ev x (.exit id) F H (.exit id,F,H):=⟨0,λ_ _ _ _=>rfl⟩
theorem Ev.ret:Ev x .ret F H (.ret,F,H):=⟨0,λ_ _ _ _=>rfl⟩
theorem c83{E:Env}{draw:Bool}{N:Nat}{call:CallF}{all ops:List Oper}{log:List LogE}{F:Frm}{H:a03}{r:Frm×a03×List LogE}(h:a7i E draw N call all ops log F H=some r):c4m ops=none:=by
 unfold c4m;split
 ·rfl
 ·rename_i o rest;split
  ·rename_i it nx h1 h2 h3;obtain⟨d,op,ty,pos,after,guard⟩:=o;simp only at h1 h2 h3;subst h1 h2 h3;unfold a7i at h;have hs:a0e E draw call F H (.next (.tmp it) false)=none:=by
    have:aop E H.length (a02 H) (.next (.tmp it) false) (opv E F)=none:=by show b65 (a02 H) (opv E F (.tmp it)) false=none;unfold b65;split<;>rfl
    unfold a0e;simp only[this]
   rw[cond_eq_ite]at h;split at h
   ·simp only[hs,a0a]at h;cases h
   ·cases h
  ·rfl
theorem Ev.region{id ops draw}{log:List LogE}(h:a7i x.E draw x.N (sem x.E x.M) ops.toList ops.toList [] F H=some (F1,H1,log))(hl:(!draw||logOk ops.toList log.length log)=true):Ev x (.region id ops draw) F H (.normal,F1,H1):=⟨0,λ_ _ R k=>by simp only[a2v,c83 h,b6o,h,hl,cond_true]⟩
theorem Ev.seq{a b}(h:Ev x a F H (.normal,F1,H1))(h2:Ev x b F1 H1 r):Ev x (.seq a b) F H r:=by obtain⟨n,h⟩:=h;obtain⟨m,h2⟩:=h2;exact⟨max n m,λlf hl R k=>by simp only[a2v];rw[h lf (by omega)];exact h2 lf (by omega) R k⟩
theorem Ev.seq_ret{a b}(h:Ev x a F H (.ret,F1,H1)):Ev x (.seq a b) F H (.ret,F1,H1):=by obtain⟨n,h⟩:=h;exact⟨n,λlf hl R k=>by simp only[a2v];rw[h lf hl]⟩
theorem Ev.seq_exit{a b id}(h:Ev x a F H (.exit id,F1,H1)):Ev x (.seq a b) F H (.exit id,F1,H1):=by obtain⟨n,h⟩:=h;exact⟨n,λlf hl R k=>by simp only[a2v];rw[h lf hl]⟩
theorem Ev.cond_t{c a b}(hc:opv x.E F c = .bool true)(h:Ev x a F H r):Ev x (.cond c a b) F H r:=by obtain⟨n,h⟩:=h;exact⟨n,λlf hl R k=>by simp only[a2v,hc,cond_true];exact h lf hl R k⟩
theorem Ev.cond_f{c a b}(hc:opv x.E F c = .bool false)(h:Ev x b F H r):Ev x (.cond c a b) F H r:=by obtain⟨n,h⟩:=h;exact⟨n,λlf hl R k=>by simp only[a2v,hc,cond_false];exact h lf hl R k⟩
theorem Ev.block{id b}(h:Ev { x with cur:=id } b F H (.normal,F1,H1)):Ev x (.block id b) F H (.normal,F1,H1):=by obtain⟨n,h⟩:=h;exact⟨n,λlf hl R k=>by simp only[a2v];rw[h lf hl]⟩
theorem Ev.block_ret{id b}(h:Ev { x with cur:=id } b F H (.ret,F1,H1)):Ev x (.block id b) F H (.ret,F1,H1):=by obtain⟨n,h⟩:=h;exact⟨n,λlf hl R k=>by simp only[a2v];rw[h lf hl]⟩
theorem Ev.block_exit{id b}(h:Ev { x with cur:=id } b F H (.exit id,F1,H1)):Ev x (.block id b) F H (.normal,F1,H1):=by obtain⟨n,h⟩:=h;exact⟨n,λlf hl R k=>by simp only[a2v];rw[h lf hl];simp⟩
theorem Ev.block_on{id id' b}(h:Ev { x with cur:=id } b F H (.exit id',F1,H1))(hne:(id'==id)=false):Ev x (.block id b) F H (.exit id',F1,H1):=by obtain⟨n,h⟩:=h;exact⟨n,λlf hl R k=>by simp only[a2v];rw[h lf hl];simp only[hne,cond_false]⟩
theorem Ev.scope{b}(h:Ev x b F H r):Ev x (.scope b) F H r:=by obtain⟨n,h⟩:=h;exact⟨n,λlf hl R k=>by simp only[a2v];exact h lf hl R k⟩
def EvL(x:Cx)(b:Code)(F:Frm)(H:a03)(r:AExit×Frm×a03):Prop:=
 ∃n0,∀lf,n0≤lf→∀n,n0≤n→∀(R:Type) (k:AExit→Frm→a03→Option R),
  a9h x.m0 (x.keep x.cur) (λF H k=>a2v x.E x.m0 x.N x.keep (sem x.E x.M) lf x.cur b F H k) n F H k=k r.1 r.2.1 r.2.2
theorem Ev.loop{b}(hx:a7j b=none)(hz:c8g (x.keep x.cur)=false)(h:EvL x b F H r):Ev x (.loop b) F H r:=by obtain⟨n,h⟩:=h;exact⟨n,λlf hl R k=>by simp only[a2v,hx,hz,cond_false];exact h lf hl lf hl R k⟩
theorem c2l{m0:Nat}{keep:List Nat}(hg:gcD m0 keep F H=some (F1,H1)) :
 (a41 (a8j m0 (a2b keep F) H)&&(a8j m0 (a2b keep F) H).all (λb=>Nat.ble m0 b)&&Nat.ble m0 H.length)=true∧b7z (b3v m0 (a8j m0 (a2b keep F) H)) (a2b keep F)=F1∧gcH m0 (a8j m0 (a2b keep F) H) H=H1:=by
 unfold gcD at hg;simp only[cond_eq_ite]at hg;split at hg
 case isFalse=>cases hg
 rename_i hc;cases hg;exact⟨hc,rfl,rfl⟩
theorem EvL.leave{b:Code}{F2:Frm}{H2:a03}{e:AExit}(hg:gcD x.m0 (x.keep x.cur) F H=some (F1,H1))(h:Ev x b F1 H1 (e,F2,H2))(he:e≠ .normal):EvL x b F H (e,F2,H2):=by
 obtain⟨n0,h⟩:=h;refine⟨n0+1,λlf hl n hn R k=>?_⟩;obtain⟨n,rfl⟩:∃l,n=l+1:=⟨n-1,by omega⟩
 obtain⟨h1,h2,h3⟩:=c2l hg;simp only[a9h,h1,h2,h3,cond_true];rw[h lf (by omega)];cases e with
 |normal=>exact absurd rfl he
 |exit id=>rfl
 |ret=>rfl
theorem EvL.again{b:Code}{F2:Frm}{H2:a03}(hg:gcD x.m0 (x.keep x.cur) F H=some (F1,H1))(h:Ev x b F1 H1 (.normal,F2,H2))(h':EvL x b F2 H2 r):EvL x b F H r:=by
 obtain⟨n0,h⟩:=h;obtain⟨m0,h'⟩:=h';refine⟨max n0 m0+1,λlf hl n hn R k=>?_⟩;obtain⟨n,rfl⟩:∃l,n=l+1:=⟨n-1,by omega⟩
 obtain⟨h1,h2,h3⟩:=c2l hg;simp only[a9h,h1,h2,h3,cond_true];rw[h lf (by omega)];exact h' lf (by omega) n (by omega) R k
theorem b7s{E:Env}{M:List Fact}{g:FuncId}{args:List AV}{H:a03}{code:Code}{N:Nat}{results:List ResultVar}{e:AExit}{F':Frm}{H':a03}{vs:List AV}{v:AV}{H2:a03}
 (hfn:E.fn g=some ⟨code,N,results⟩)(hno:∀y∈M,y.g≠g)(hN:Nat.ble args.length N=true)(h:Ev ⟨E,M,H.length,N,E.keep g,0⟩ code (a43 0 args) H (e,F',H'))(he:∀id,e≠ .exit id)
 (hr:a0r E F' H' results=some vs)(hfin:a42 (E.thaw g) H.length (a6w vs) H'=some (v,H2))(hp:E.prim g args=none)(hz:E.zf g=false)(hw:E.raw g=false):sem E M g args H=some (v,H2):=by
 obtain⟨n,h⟩:=h;refine c1i hno n ?_;unfold a9f;have hph:c4h E g args H=none:=by
  unfold c4h;cases H with
  |nil=>exact hp
  |cons a r=>rfl
 rw[hph,hfn];simp only;rw[hN];simp only[cond_true];unfold d4d;rw[hz];simp only[cond_false];refine(h n (Nat.le_refl _) _ _).trans ?_;cases e with
 |exit id=>exact absurd rfl (he id)
 |normal=>simp only[hr,c6q,hw];exact hfin
 |ret=>simp only[hr,c6q,hw];exact hfin
end
end Go.Ax
/- AxSimp: the evaluator's steps as rewrite rules. -/
namespace Go.Ax
section
variable {E:Env}{draw:Bool}{N:Nat}{call:CallF}{all rest:List Oper}{log:List LogE}{F:Frm}{H:a03}
@[go_sem] theorem d3x(s:Nat)(v:AV)(r:Frm):a2d ((s,v)::r) s=v:=by simp only[a2d,c3w,cond_eq_ite,beq_self_eq_true,if_true]
@[go_sem] theorem d21{s t:Nat}(h:(s=t)=False)(v:AV)(r:Frm):a2d ((s,v)::r) t=a2d r t:=by have:¬s=t:=λe=>h▸e;simp only[a2d,c3w,cond_eq_ite,beq_iff_eq,if_neg this]
@[go_sem] theorem d0x(d:Nat)(v:AV):a2o F (some d) v=(d,v)::F:=by rfl
@[go_sem] theorem d0y(v:AV):a2o F none v=F:=by rfl
@[go_sem] theorem d5i(t:Nat):opv E F (.tmp t)=a2d F t:=by rfl
@[go_sem] theorem d3l(f:Nat):opv E F (.func f) = .func (.func f) [] []:=by rfl
@[go_sem] theorem d3m(b:Bool):opv E F (.const (.bool b)) = .bool b:=by rfl
@[go_sem] theorem d5k(k:IntKind)(n:Int):opv E F (.const (.int k n)) = .int k n:=by rfl
@[go_sem] theorem c6h:opv E F (.const (.slice none 0 0)) = .nilslice:=by rfl
@[go_sem] theorem c7w:opv E F (.const .nilFunc) = .nilfunc:=by rfl
@[go_sem] theorem d5j(s:ByteArray):opv E F (.const (.string s)) = .str s.data.toList:=by rfl
@[go_sem] theorem d37:a7i E draw N call all [] log F H=some (F,H,log):=by rfl
@[go_sem] theorem d09(d:Nat):a58 N (some d)=decide (d<N):=by rw[a58,Bool.eq_iff_iff];simp[Nat.blt_eq]
@[go_sem] theorem d0a:a58 N none=true:=by rfl
theorem c7m(dst:Option Nat)(op:Op)(ty:TypeId)(pos:String)(after:Array Edge) :
 a7i E draw N call all ({ dst:=dst,op:=op,type:=ty,pos:=pos,after:=after,guard:=none }::rest) log F H =
  bif a58 N dst then a0a (a0e E draw call F H op) λx=>a7i E draw N call all rest (x.2.2::log) (a2o F dst x.1) x.2.1 else none:=by
 rfl
def c6d(E:Env)(draw:Bool)(N:Nat)(call:CallF)(all:List Oper)(dst:Option Nat)(op:Op)(rest:List Oper)(log:List LogE)(F:Frm)(H:a03)(d:Nat)(want:Bool):AV→Option (Frm×a03×List LogE)
 |.bool b=>bif b then
  (bif want then a0a (a0e E draw call (a2o F (some d) (.bool true)) H op) λx=>a7i E draw N call all rest (x.2.2::log) (a2o (a2o F (some d) (.bool true)) dst x.1) x.2.1
  else a7i E draw N call all rest (⟨[],[]⟩::log) (a2o (a2o F (some d) (.bool true)) dst (.tuple [])) H)
  else
   (bif want then a7i E draw N call all rest (⟨[],[]⟩::log) (a2o (a2o F (some d) (.bool false)) dst (.tuple [])) H
   else a0a (a0e E draw call (a2o F (some d) (.bool false)) H op) λx=>a7i E draw N call all rest (x.2.2::log) (a2o (a2o F (some d) (.bool false)) dst x.1) x.2.1)
 |.tuple []=>a7i E draw N call all rest (⟨[],[]⟩::log) (a2o F dst (.tuple [])) H
 |_=>none
theorem b9o(dst:Option Nat)(op:Op)(ty:TypeId)(pos:String)(after:Array Edge)(j:Nat)(want:Bool) :
 a7i E draw N call all ({ dst:=dst,op:=op,type:=ty,pos:=pos,after:=after,guard:=some (j,want) }::rest) log F H =
  bif a58 N dst then a0a (a22 all j) λd=>c6d E draw N call all dst op rest log F H d want (a2d F d)else none:=by
 unfold a7i;cases a58 N dst with
 |false=>rfl
 |true=>
  simp only[cond_true];cases a22 all j with
  |none=>rfl
  |some d=>simp only[a0a];unfold c6d;rfl
section
variable {dst:Option Nat}{op:Op}{d:Nat}
theorem c7i:c6d E draw N call all dst op rest log F H d true (.bool true)=a0a (a0e E draw call ((d,.bool true)::F) H op) λx=>a7i E draw N call all rest (x.2.2::log) (a2o ((d,.bool true)::F) dst x.1) x.2.1:=by rfl
theorem c7j:c6d E draw N call all dst op rest log F H d true (.bool false)=a7i E draw N call all rest (⟨[],[]⟩::log) (a2o ((d,.bool false)::F) dst (.tuple [])) H:=by rfl
theorem c7k:c6d E draw N call all dst op rest log F H d false (.bool true)=a7i E draw N call all rest (⟨[],[]⟩::log) (a2o ((d,.bool true)::F) dst (.tuple [])) H:=by rfl
theorem c7l:c6d E draw N call all dst op rest log F H d false (.bool false)=a0a (a0e E draw call ((d,.bool false)::F) H op) λx=>a7i E draw N call all rest (x.2.2::log) (a2o ((d,.bool false)::F) dst x.1) x.2.1:=by rfl
end
attribute [go_sem] c7m b9o c7i c7j c7k c7l
@[congr] theorem c9r{dst:Option Nat}{op:Op}{d:Nat}{want:Bool}{v v':AV}(h:v=v'):c6d E draw N call all dst op rest log F H d want v=c6d E draw N call all dst op rest log F H d want v':=by rw[h]
/-! ### one operation -/
@[go_sem] theorem d4z(x:Operand):a0e E draw call F H (.move x)=some (opv E F x,H,⟨[],[]⟩):=by rfl
@[go_sem] theorem d0s(x:Operand):a0e E draw call F H (.assign x)=some (opv E F x,H,⟨[],[]⟩):=by rfl
theorem a1l{op:Op}{v:Option AV}(h:aop E H.length (a02 H) op (opv E F)=v.map (·,.none))(hs:a0e E draw call F H op=match aop E H.length (a02 H) op (opv E F)with
 |some (v,e)=>bif e.fits H.length then some (v,a99 H e,⟨a6i op (opv E F),e.keys H.length⟩)else none
 |none=>none):a0e E draw call F H op=a0a v λv=>some (v,H,⟨a6i op (opv E F),[]⟩):=by
 rw[hs,h];cases v<;>rfl
@[go_sem] theorem d6t(op:BinOp)(t:TypeId)(x y:Operand)(z):a0e E draw call F H (.binOp op t x y z)=a0a (a8w E op t (opv E F x) (opv E F y) (a37 x||a37 y)) λv=>some (v,H,⟨[],[]⟩):=a1l rfl rfl
@[go_sem] theorem d8f(op:UnOp)(t:TypeId)(x:Operand):a0e E draw call F H (.unOp op t x)=a0a (aun op (opv E F x)) λv=>some (v,H,⟨[],[]⟩):=a1l rfl rfl
@[go_sem] theorem d51(s d:TypeId)(x:Operand):a0e E draw call F H (.convert s d x)=a0a (a5c E (a02 H) s d (opv E F x)) λv=>some (v,H,⟨a0b (opv E F x),[]⟩):=a1l rfl rfl
@[go_sem] theorem d50(t:TypeId)(x:Operand):a0e E draw call F H (.load t x)=a0a (a5p E (a02 H) t (opv E F x)) λv=>some (v,H,⟨a0b (opv E F x),[]⟩):=a1l rfl rfl
@[go_sem] theorem d33(t:TypeId)(x:Operand)(lo hi mx:Option Operand):a0e E draw call F H (.slice t x lo hi mx)=a0a (a5a E (a02 H) t (opv E F x) (lo.map (opv E F)) (hi.map (opv E F)) (mx.map (opv E F))) λv=>some (v,H,⟨a0b (opv E F x),[]⟩):=a1l rfl rfl
@[go_sem] theorem c6b(t:TypeId)(x:Operand)(f:Nat):a0e E draw call F H (.fieldAddr t x f)=a0a (a49 E t (opv E F x) f) λv=>some (v,H,⟨[],[]⟩):=a1l rfl rfl
@[go_sem] theorem c6a(t:TypeId)(x i:Operand):a0e E draw call F H (.indexAddr t x i)=a0a (a0j E (a02 H) t (opv E F x) (opv E F i)) λv=>some (v,H,⟨a0b (opv E F x),[]⟩):=a1l rfl rfl
@[go_sem] theorem d34(t:TypeId)(ps:Array (Nat×Operand)):a0e E draw call F H (.build t ps)=a0a (b34 E t (ps.toList.map λp=>(p.1,opv E F p.2))) λv=>some (v,H,⟨[],[]⟩):=a1l rfl rfl
@[go_sem] theorem d0r(t:TypeId)(x k:Operand)(o:Bool):a0e E draw call F H (.lookup t x k o)=a0a (oor (a3j E (a02 H) t (opv E F x) (opv E F k) o) (b1h E (a02 H) t (opv E F x) (opv E F k) o)) λv=>some (v,H,⟨a0b (opv E F x),[]⟩):=a1l rfl rfl
@[go_sem] theorem c79(fn:Fn)(first cap:Array Operand):a0e E draw call F H (.makeFunc fn first cap)=some (.func fn (first.toList.map (opv E F)) (cap.toList.map (opv E F)),H,⟨[],[]⟩):=by rfl
def b63(c a b:AV):Option AV:=match c with|.bool t=>some (b1t t a b)|_=>none
@[go_sem] theorem d4y(c a b:Operand):a0e E draw call F H (.pick c a b)=a0a (b63 (opv E F c) (opv E F a) (opv E F b)) λv=>some (v,H,⟨[],[]⟩):=by refine a1l ?_ rfl;simp only[aop,b63];cases opv E F c<;>rfl
@[go_sem] theorem c8z(t a b:Bool):b63 (.bool t) (.bool a) (.bool b)=some (.bool (bif t then a else b)):=by rfl
@[go_sem] theorem c8y(a b:AV):b63 (.bool true) a b=some (b1t true a b):=by rfl
@[go_sem] theorem c6t(a b:AV):b63 (.bool false) a b=some (b1t false a b):=by rfl
theorem c8w(a b:AV):b1t true a b=a:=by unfold b1t;split<;>simp
theorem c8x(a b:AV):b1t false a b=b:=by unfold b1t;split<;>simp
attribute [go_sem] c8w c8x
def b64(x:AV):Option AV:=match x with
 |.ptr b i o=>some (.ptr b i o)
 |.iptr cs=>some (.iptr cs)
 |.func (.func f) fs cs=>some (.func (.func f) fs cs)
 |_=>none
attribute [go_sem] b64
def b4d(x:AV)(i:Nat):Option AV:=match x with|.tuple vs=>vs[i]?|_=>none
attribute [go_sem] b4d
@[go_sem] theorem c9o(t:Operand)(i:Nat):a0e E draw call F H (.extract t i)=a0a (b4d (opv E F t) i) λv=>some (v,H,⟨[],[]⟩):=by
 refine a1l ?_ rfl;simp only[aop,b4d];cases opv E F t with
 |tuple vs=>simp only;cases vs[i]?<;>rfl
 |_=>rfl
theorem a5d{op:Op}{v:Option (AV×Eff)}(h:aop E H.length (a02 H) op (opv E F)=v)(hs:a0e E draw call F H op=match aop E H.length (a02 H) op (opv E F)with
 |some (v,e)=>bif e.fits H.length then some (v,a99 H e,⟨a6i op (opv E F),e.keys H.length⟩)else none
 |none=>none){n:List Nat}(hn:a6i op (opv E F)=n):a0e E draw call F H op=a0a v λx=>bif x.2.fits H.length then some (x.1,a99 H x.2,⟨n,x.2.keys H.length⟩)else none:=by
 rw[hs,h];subst hn;cases v<;>rfl
@[go_sem] theorem d35(t:TypeId):a0e E draw call F H (.alloc t)=a0a (c91 E H.length t) λx=>bif x.2.fits H.length then some (x.1,a99 H x.2,⟨[],x.2.keys H.length⟩)else none:=a5d rfl rfl rfl
@[go_sem] theorem d6s(t:TypeId)(x:Operand):a0e E draw call F H (.box t x)=a0a (c9e H.length (opv E F x)) λx=>bif x.2.fits H.length then some (x.1,a99 H x.2,⟨[],x.2.keys H.length⟩)else none:=a5d rfl rfl rfl
@[go_sem] theorem d32(t:TypeId)(a x:Operand):a0e E draw call F H (.store t a x)=a0a (a5x E (a02 H) t (opv E F a) (opv E F x)) λe=>bif e.fits H.length then some (.tuple [],a99 H e,⟨a0b (opv E F a),e.keys H.length⟩)else none:=by refine(a5d (v:=(a5x E (a02 H) t (opv E F a) (opv E F x)).map (.tuple [],·)) rfl rfl rfl).trans ?_;cases a5x E (a02 H) t (opv E F a) (opv E F x)<;>rfl
@[go_sem] theorem c48(t:TypeId)(n:Nat)(ps:Array (Nat×Operand)):a0e E draw call F H (.buildSlice t n ps)=a0a (a2f E H.length t n (ps.toList.map λp=>(p.1,opv E F p.2))) λx=>bif x.2.fits H.length then some (x.1,a99 H x.2,⟨[],x.2.keys H.length⟩)else none:=a5d rfl rfl rfl
@[go_sem] theorem c69(t:TypeId)(l c:Operand):a0e E draw call F H (.makeSlice t l c)=a0a (a31 E H.length t (opv E F l) (opv E F c)) λx=>bif x.2.fits H.length then some (x.1,a99 H x.2,⟨[],x.2.keys H.length⟩)else none:=a5d rfl rfl rfl
@[go_sem] theorem c9n(t:TypeId):a0e E draw call F H (.makeMap t none)=some (.map H.length,H++[some (b0g E t)],⟨[],[H.length]⟩):=by rfl
@[go_sem] theorem c68(t:TypeId)(m k x:Operand):a0e E draw call F H (.mapUpdate t m k x)=a0a (oor (a12 E (a02 H) t (opv E F m) (opv E F k) (opv E F x)) (b1s E (a02 H) t (opv E F m) (opv E F k) (opv E F x))) λe=>bif e.fits H.length then some (.tuple [],a99 H e,⟨a0b (opv E F m),e.keys H.length⟩)else none:=by refine(a5d (v:=(oor (a12 E (a02 H) t (opv E F m) (opv E F k) (opv E F x)) (b1s E (a02 H) t (opv E F m) (opv E F k) (opv E F x))).map (.tuple [],·)) rfl rfl rfl).trans ?_;cases oor (a12 E (a02 H) t (opv E F m) (opv E F k) (opv E F x)) (b1s E (a02 H) t (opv E F m) (opv E F k) (opv E F x))<;>rfl
@[go_sem] theorem d6q(x:Operand)(t:TypeId):a0e E draw call F H (.call { callee:=.builtin .len,args:=#[x],argTypes:=#[t] })=a0a (b6c E (a02 H) t (opv E F x)) λv=>some (v,H,⟨a0b (opv E F x),[]⟩):=by refine(a1l (v:=b6c E (a02 H) t (opv E F x)) rfl rfl).trans ?_;simp[a6i]
@[go_sem] theorem d6r(x:Operand)(t:TypeId):a0e E draw call F H (.call { callee:=.builtin .cap,args:=#[x],argTypes:=#[t] })=a0a (c9b E t (opv E F x)) λv=>some (v,H,⟨a0b (opv E F x),[]⟩):=by refine(a1l (v:=c9b E t (opv E F x)) rfl rfl).trans ?_;simp[a6i]
@[go_sem] theorem d6p(x:Operand)(xs:List Operand)(ts:Array TypeId):a0e E draw call F H (.call { callee:=.builtin .max,args:=⟨x::xs⟩,argTypes:=ts })=a0a (c40 (opv E F x) (xs.map (opv E F))) λv=>some (v,H,⟨(x::xs).flatMap λx=>a0b (opv E F x),[]⟩):=a1l rfl rfl
@[go_sem] theorem d0t(x y:Operand)(t u:TypeId):a0e E draw call F H (.call { callee:=.builtin .append,args:=#[x,y],argTypes:=#[t,u] })=a0a (oor (a3d E (a02 H) H.length t u (opv E F x) (opv E F y)) (a2l E H.length t u (opv E F x) (opv E F y))) λz=>bif z.2.fits H.length then some (z.1,a99 H z.2,⟨a0b (opv E F x)++a0b (opv E F y),z.2.keys H.length⟩)else none:=a5d rfl rfl (by simp[a6i])
@[go_sem] theorem d0j{E:Env}{n:Nat}{t u:TypeId}{x:AV}{b off len:Nat}{cap:Option Nat}:a2l E n t u (.slice b off len cap) x=none:=by unfold a2l;rfl
@[go_sem] theorem c9h{E:Env}{n:Nat}{t u:TypeId}{b off len:Nat}{cap:Option Nat}:a2l E n t u .nilslice (.slice b off len cap)=none:=by unfold a2l;rfl
@[go_sem] theorem d3o{α:Type}(x:Option α):oor x none=x:=by cases x<;>rfl
@[go_sem] theorem d3n{α:Type}(x:α)(y:Option α):oor (some x) y=some x:=by rfl
@[go_sem] theorem c7n{g:FuncId}{fs cs:List AV}{H H':a03}{σ:List Nat}:a4z E (.func (.func g) fs cs) H H' σ=(E.ro g&&σ.all λb=>a9e (a02 H b) (a02 H' b)):=by rfl
@[go_sem] theorem d2e{α:Type}(b:Bool)(x:α):(bif b then x else x)=x:=by cases b<;>rfl
@[go_sem] theorem d02(ro:Bool)(σ:List Nat)(n:Nat):b1p ro σ n n=bif ro then[]else σ:=by unfold b1p;rw[cond_eq_ite,if_pos (by rw[Nat.beq_eq])]
attribute [go_sem] List.range'_succ List.range'_zero
@[go_sem] theorem d52(f:Operand)(args:Array Operand)(ts:Array TypeId):a0e E draw call F H (.call { callee:=.value f,args:=args,argTypes:=ts })=a0a (a0o E draw call (opv E F f) (args.toList.map (opv E F)) H) λx=>some (x.1,x.2.1,⟨x.2.2,b1p (a4z E (opv E F f) H x.2.1 x.2.2) x.2.2 H.length x.2.1.length⟩):=by simp only[a0e];cases a0o E draw call (opv E F f) (args.toList.map (opv E F)) H<;>rfl
end
/-! ### tables read by type -/
section
variable (E:Env)
def a9t(t:TypeId):Option Bool:=(E.und t).map a1j
def a97(t:TypeId)(f:Nat):Option (Nat×TypeId):=match E.und t with|some (.struct fs)=>(fs[f]?).map λd=>(d.offset,d.type)|_=>none
def d0b(t:TypeId):Bool:=match E.und t with
 |some (.struct fs)=>fs.toList.all (λf=>(E.und f.type).isSome)
 |some (.array _ e)=>(E.und e).isSome
 |_=>false
def c0y(t:TypeId)(i:Nat):Option (Nat×Nat):=match E.und t with
 |some (.struct fs)=>(fs[i]?).map λf=>(f.offset,E.sz f.type)
 |some (.array _ e)=>some (i*E.sz e,E.sz e)
 |_=>none
def isT(t:TypeId):Bool:=(E.und t).isSome
end
section
variable {E:Env}{h:FHeap}
def c7u:Option Bool→List AV→Option AV
 |some true,cs=>some (.agg cs)
 |some false,cs=>cs.head?
 |none,_=>none
attribute [go_sem] c7u List.head?_cons
@[go_sem] theorem d1m(t:TypeId)(cs:List AV):a1u E t cs=bif decide (cs.length=E.sz t)then c7u (a9t E t) cs else none:=by
 unfold a1u a9t;have e:(cs.length==E.sz t)=decide (cs.length=E.sz t):=by by_cases h:cs.length=E.sz t<;>simp[h]
 rw[e];cases E.und t with
 |none=>cases decide (cs.length=E.sz t)<;>rfl
 |some d=>cases decide (cs.length=E.sz t)<;>simp[c7u]<;>cases a1j d<;>rfl
def fieldAt(E:Env)(p:AV)(o:Nat)(t:TypeId):Option AV:=
 bif decide (E.sz t≠0)&&isT E t then match p with
  |.ptr b i q=>some (.ptr b i (q+o))
  |.iptr cs=>some (.iptr (cs.drop o))
  |_=>none
 else none
attribute [go_sem] fieldAt
@[go_sem] theorem c6w(t:TypeId)(p:AV)(f:Nat):a49 E t p f=a0a (a97 E t f) λx=>fieldAt E p x.1 x.2:=by
 unfold a49 a97 fieldAt isT;cases E.und t with
 |none=>rfl
 |some d=>
  cases d<;>try rfl
  rename_i fs;simp only;cases fs[f]? with
  |none=>rfl
  |some fd=>
   by_cases h:E.sz fd.type=0
   ·simp[h,a0a]
   ·have e:(E.sz fd.type==0)=false:=beq_eq_false_iff_ne.2 h;simp[h,e,a0a];rfl
@[go_sem] theorem d4e(t:TypeId)(parts:List (Nat×AV)):b34 E t parts=bif d0b E t then a0a (E.zero t) λz=>a0a (a8t (c0y E t) z parts) λcs=>some (.agg cs)else none:=by
 unfold b34 d0b c0y;cases hz:E.zero t with
 |none=>
  simp only[a0a];cases E.und t with
  |none=>rfl
  |some d=>cases d<;>simp
 |some z=>
  cases hu:E.und t with
  |none=>rfl
  |some d=>
   cases d<;>try rfl
   ·simp only[a0a];split<;>simp_all<;>split<;>simp_all<;>rfl
   ·simp only[a0a];split<;>simp_all<;>split<;>simp_all<;>rfl
end
/-! ### values -/
section
variable {E:Env}{h:FHeap}{t:TypeId}{k:IntKind}{a b:Int}{p q:Bool}{c:Bool}
theorem ikb(k:IntKind):(k==k)=true:=by cases k<;>rfl
@[go_sem] theorem d4p:a8w E .add t (.int k a) (.int k b) c=some (.int k (k.wrap (a+b))):=by simp only[a8w,ikb,c0r,cond_true]
@[go_sem] theorem d4f:a8w E .sub t (.int k a) (.int k b) c=some (.int k (k.wrap (a-b))):=by simp only[a8w,ikb,c0r,cond_true]
@[go_sem] theorem d4i(hb:(b=0)=False):a8w E .quo t (.int k a) (.int k b) c=some (.int k (k.wrap (a.tdiv b))):=by
 have:(b==0)=false:=by rw[beq_eq_false_iff_ne];exact λe=>hb▸e
 simp only[a8w,ikb,c0r,cond_true,this,cond_false]
@[go_sem] theorem d4h(hb:(b=0)=False):a8w E .rem t (.int k a) (.int k b) c=some (.int k (a.tmod b)):=by
 have:(b==0)=false:=by rw[beq_eq_false_iff_ne];exact λe=>hb▸e
 simp only[a8w,ikb,c0r,cond_true,this,cond_false]
theorem d7y(a b:Int):(a==b)=decide (a=b):=by
 by_cases h:a=b
 ·subst h;simp
 ·rw[beq_eq_false_iff_ne.2 h,decide_eq_false h]
@[go_sem] theorem d4o:a8w E .eql t (.int k a) (.int k b) c=some (.bool (decide (a=b))):=by simp only[a8w,ikb,c0r,cond_true,d7y]
@[go_sem] theorem d4j:a8w E .neq t (.int k a) (.int k b) c=some (.bool (!decide (a=b))):=by simp only[a8w,ikb,c0r,cond_true,bne,d7y]
@[go_sem] theorem d4k:a8w E .lss t (.int k a) (.int k b) c=some (.bool (decide (a<b))):=by simp only[a8w,ikb,c0r,cond_true]
@[go_sem] theorem d4l:a8w E .leq t (.int k a) (.int k b) c=some (.bool (decide (a≤b))):=by simp only[a8w,ikb,c0r,cond_true]
@[go_sem] theorem d4m:a8w E .gtr t (.int k a) (.int k b) c=some (.bool (decide (b<a))):=by simp only[a8w,ikb,c0r,cond_true]
@[go_sem] theorem d4n:a8w E .geq t (.int k a) (.int k b) c=some (.bool (decide (b≤a))):=by simp only[a8w,ikb,c0r,cond_true]
@[go_sem] theorem e0u(b:Bool):(b==b)=true:=by cases b<;>rfl
@[go_sem] theorem d2t(ht:E.und t=some .bool):a8w E .neq t (.bool p) (.bool q) c=some (.bool (!(p==q))):=by simp[a8w,AV.eqShape,aeq,ht]
@[go_sem] theorem d4g{op:BinOp}{x y:List UInt8}(h1:op≠ .shl:=by decide)(h2:op≠ .shr:=by decide):a8w E op t (.str x) (.str y) c=d48 op x y:=by cases op<;>first|rfl|exact absurd rfl h1|exact absurd rfl h2
@[go_sem] theorem d6h:aun .not (.bool p)=some (.bool (!p)):=by rfl
@[go_sem] theorem d0l(o:Option AObj)(r:a03):a02 (o::r) 0=o:=by simp[a02]
@[go_sem] theorem d0m(o:Option AObj)(r:a03)(n:Nat):a02 (o::r) (n+1)=a02 r n:=by simp[a02]
@[go_sem] theorem d2x(n:Nat):a02 [] n=none:=by rfl
def slT(E:Env)(t:TypeId):Option TypeId:=match E.und t with|some (.slice e)=>some e|_=>none
theorem a3f{e:TypeId}:slT E t=some e↔E.und t=some (.slice e):=by
 unfold slT;constructor
 ·intro h;split at h
  ·rename_i heq;cases h;exact heq
  ·cases h
 ·intro h;rw[h]
def b04:Option AObj→Option (Nat×List (List AV))
 |some (.row k rows)=>some (k,rows)
 |_=>none
attribute [go_sem] b04
def b3j(rows:List (List AV))(i:Int):Option (List AV):=if 0≤i then rows[i.toNat]? else none
@[go_sem] theorem d13(rows:List (List AV))(n:Nat):b3j rows (n:Int)=rows[n]?:=by simp[b3j]
theorem c1l{rows:List (List AV)}{i:Int}(h:0≤i):b3j rows i=rows[i.toNat]?:=by simp[b3j,h]
def inR(i:Int)(n:Nat):Bool:=decide (0≤i)&&decide (i<n)
@[go_sem] theorem b3s(j n:Nat):inR (j:Int) n=decide (j<n):=by
 unfold inR;rw[decide_eq_true (by omega:(0:Int)≤j),Bool.true_and];by_cases h:j<n
 ·rw[decide_eq_true h,decide_eq_true (by omega)]
 ·rw[decide_eq_false h,decide_eq_false (by omega)]
theorem b4b{i:Int}{n:Nat}:c0s (.int k i) n=bif inR i n then some i.toNat else none:=rfl
@[go_sem] theorem d0g{b o n:Nat}{cp:Option Nat}(hs:(slT E t).isSome=true):b6c E h t (.slice b o n cp)=some (.int .i64 n):=by obtain⟨e,he⟩:=Option.isSome_iff_exists.1 hs;simp only[b6c,a3f.1 he]
@[go_sem] theorem c94{rows:List (List AV)}{cp:Option Nat}(hs:(slT E t).isSome=true):b6c E h t (.islice rows cp)=some (.int .i64 rows.length):=by obtain⟨e,he⟩:=Option.isSome_iff_exists.1 hs;simp only[b6c,a3f.1 he]
@[go_sem] theorem d4c(hs:(slT E t).isSome=true):b6c E h t .nilslice=some (.int .i64 0):=by obtain⟨e,he⟩:=Option.isSome_iff_exists.1 hs;simp only[b6c,a3f.1 he]
@[go_sem] theorem c9a{rows:List (List AV)}{c:Nat}(hs:(slT E t).isSome=true):c9b E t (.islice rows (some c))=some (.int .i64 c):=by obtain⟨e,he⟩:=Option.isSome_iff_exists.1 hs;simp only[c9b,a3f.1 he]
def d1y(E:Env)(e:Option TypeId)(r:Option (List AV)):Option AV:=match e,r with
 |some e,some r=>bif isT E e&&decide (r.length=E.sz e)then some (.iptr r)else none
 |_,_=>none
attribute [go_sem] d1y
theorem c17(a b:Nat):(a==b)=decide (a=b):=by
 by_cases h:a=b
 ·subst h;simp
 ·rw[beq_eq_false_iff_ne.2 h,decide_eq_false h]
@[go_sem] theorem b0r{rows:List (List AV)}{cp:Option Nat}{i:Int}:a0j E h t (.islice rows cp) (.int k i)=match slT E t with|some e=>d1y E (some e) (b3j rows i)|none=>a0j E h t (.islice rows cp) (.int k i):=by
 cases hs:slT E t with
 |none=>rfl
 |some e=>
  have hu:=a3f.1 hs;simp only[a0j,hu,b4b,inR,d1y,isT];by_cases h0:0≤i
  ·rw[decide_eq_true h0,c1l h0];by_cases h1:i<rows.length
   ·rw[decide_eq_true h1];have:i.toNat<rows.length:=by omega
    simp only[z9e this,Bool.and_self,cond_true,c17];cases(E.und e).isSome<;>rfl
   ·rw[decide_eq_false h1];rw[List.getElem?_eq_none (by omega)];simp
  ·simp[h0,b3j]
def d5r(E:Env)(e:Option TypeId)(ok:Bool)(r:Option (Nat×List (List AV)))(b j:Nat):Option AV:=match e,r with
 |some e,some r=>bif isT E e&&ok&&decide (r.1=E.sz e)then some (.ptr b j 0)else none
 |_,_=>none
attribute [go_sem] d5r Int.toNat_natCast
@[go_sem] theorem d06{b o n:Nat}{cp:Option Nat}{i:Int}:a0j E h t (.slice b o n cp) (.int k i)=match slT E t with|some e=>d5r E (some e) (inR i n) (b04 (h b)) b (o+i.toNat)|none=>a0j E h t (.slice b o n cp) (.int k i):=by
 cases hs:slT E t with
 |none=>rfl
 |some e=>
  have hu:=a3f.1 hs;simp only[a0j,hu,b4b,d5r,isT];cases hb:h b with
  |none=>cases inR i n<;>simp[b04]
  |some o=>cases o<;>cases inR i n<;>simp[b04,c17];cases(E.und e).isSome<;>simp
def b98(E:Env)(t:TypeId):Option (Nat×TypeId):=match E.und t with|some (.array m e)=>some (m,e)|_=>none
theorem c5p{m:Nat}{e:TypeId}:b98 E t=some (m,e)→E.und t=some (.array m e):=by
 unfold b98;intro h;split at h
 ·rename_i heq;cases h;exact heq
 ·cases h
def b2k(E:Env)(n:Nat)(e:TypeId)(p:AV)(j:Int):Option AV:=
 bif inR j n&&isT E e then match p with
  |.ptr b i o=>some (.ptr b i (o+j.toNat*E.sz e))
  |.iptr cs=>some (.iptr (cs.drop (j.toNat*E.sz e)))
  |_=>none
 else none
@[go_sem] theorem d05(n:Nat)(e:TypeId)(b i o:Nat)(j:Int):b2k E n e (.ptr b i o) j=bif inR j n&&isT E e then some (.ptr b i (o+j.toNat*E.sz e))else none:=by rfl
@[go_sem] theorem c8b(n:Nat)(e:TypeId)(cs:List AV)(j:Int):b2k E n e (.iptr cs) j=bif inR j n&&isT E e then some (.iptr (cs.drop (j.toNat*E.sz e)))else none:=by rfl
theorem b8m{n:Nat}{e:TypeId}{p:AV}{j:Int}(hu:b98 E t=some (n,e)):a0j E h t p (.int k j)=b2k E n e p j:=by
 simp only[a0j,c5p hu,b4b,b2k,isT];cases inR j n with
 |false=>rfl
 |true=>simp only[cond_true,Bool.true_and];cases(E.und e).isSome<;>cases p<;>rfl
@[go_sem] theorem d3w{b i o:Nat}{j:Int}:a0j E h t (.ptr b i o) (.int k j)=match b98 E t with|some (n,e)=>b2k E n e (.ptr b i o) j|none=>a0j E h t (.ptr b i o) (.int k j):=by
 cases hu:b98 E t with
 |none=>rfl
 |some x=>exact b8m hu
@[go_sem] theorem d1z{cs:List AV}{j:Int}:a0j E h t (.iptr cs) (.int k j)=match b98 E t with|some (n,e)=>b2k E n e (.iptr cs) j|none=>a0j E h t (.iptr cs) (.int k j):=by
 cases hu:b98 E t with
 |none=>rfl
 |some x=>exact b8m hu
@[go_sem] theorem d95(n:Nat):inR 0 n=decide (0<n):=b3s 0 n
@[go_sem] theorem d4u:Int.toNat 0=0:=by rfl
@[go_sem] theorem d94(n:Nat):inR 1 n=decide (1<n):=b3s 1 n
@[go_sem] theorem d4t:Int.toNat 1=1:=by rfl
@[go_sem] theorem d93(n:Nat):inR 2 n=decide (2<n):=b3s 2 n
@[go_sem] theorem d4s:Int.toNat 2=2:=by rfl
@[go_sem] theorem d92(n:Nat):inR 3 n=decide (3<n):=b3s 3 n
@[go_sem] theorem d4r:Int.toNat 3=3:=by rfl
@[go_sem] theorem d0f{cs:List AV}:a5p E h t (.iptr cs)=a1u E t (cs.take (E.sz t)):=by rfl
@[go_sem] theorem d2q{b i o:Nat}:a5p E h t (.ptr b i o)=a0a (b04 (h b)) λkr=>a0a (kr.2[i]?) λr=>a1u E t ((r.drop o).take (E.sz t)):=by
 unfold a5p;cases hb:h b with
 |none=>simp only[hb];rfl
 |some ob=>cases ob<;>simp only[hb,b04,a0a];rename_i rows;cases rows[i]?<;>rfl
@[go_sem] theorem d0c{b i o:Nat}{x:AV}:a5x E h t (.ptr b i o) x=a0a (b04 (h b)) λkr=>a0a (kr.2[i]?) λr=>
 bif decide (x.cells.length=E.sz t)&&isT E t&&Nat.ble (o+x.cells.length) r.length&&x.cells.all AV.storable then some (.set b (.row kr.1 (kr.2.set i (splice r o x.cells))))else none:=by
 unfold a5x;cases hb:h b with
 |none=>simp only[hb];rfl
 |some ob=>cases ob<;>simp only[hb,b04,a0a];rename_i rows;cases rows[i]?<;>simp only[isT,c17]
@[go_sem] theorem d80{n:Nat}:c91 E n t=a0a (E.zero t) λz=>bif decide (0<z.length)then some (.ptr n 0 0,.new (.row z.length [z]))else none:=by
 unfold c91;cases E.zero t with
 |none=>rfl
 |some z=>simp only[a0a];cases z<;>rfl
@[go_sem] theorem d81{n:Nat}{x:AV}:c9e n x=bif !x.isJunk&&decide (0<x.cells.length)then some (.ptr n 0 0,.new (.row x.cells.length [x.cells]))else none:=by
 have e:Nat.blt 0 x.cells.length=decide (0<x.cells.length):=by rw[Bool.eq_iff_iff];simp[Nat.blt_eq]
 cases x<;>simp only[c9e,e,AV.isJunk,Bool.not_false,Bool.true_and,Bool.not_true,Bool.false_and,cond_false]
theorem c3z(a b:Nat):Nat.ble a b=decide (a≤b):=by rw[Bool.eq_iff_iff];simp[Nat.ble_eq]
theorem c16(a b:Nat):Nat.blt a b=decide (a<b):=by rw[Bool.eq_iff_iff];simp[Nat.blt_eq]
attribute [go_sem] c3z c16
@[go_sem] theorem d36(r:List AV)(o:Nat)(cs:List AV):splice r o cs=r.take o++cs++r.drop (o+cs.length):=by rfl
def d01(E:Env)(e:TypeId)(l c:Int):Bool:=decide (0≤l)&&decide (l≤c)&&decide (c≤281474976710656)&&decide ((E.bytes e:Int)*c≤281474976710656)
@[go_sem] theorem c6v{n:Nat}{k':IntKind}{l c:Int}:a31 E n t (.int k l) (.int k' c)=a0a (slT E t) λe=>a0a (E.zero e) λz=>bif d01 E e l c&&decide (0<z.length)then
 some (AV.slice n 0 l.toNat (some c.toNat),Eff.new (.row z.length (List.replicate c.toNat z)))else none:=by
 cases hs:slT E t with
 |none=>
  unfold a31;unfold slT at hs;cases hu:E.und t with
  |none=>rfl
  |some d=>cases d<;>first|rfl|(rw[hu]at hs;cases hs)
 |some e=>have hu:=a3f.1 hs;simp only[a31,hu,a0a,d01,c16];cases E.zero e<;>rfl
theorem b86{e:TypeId}{m:Nat}(h:m≤1000000000)(hb:E.bytes e≤1000):d01 E e (m:Int) (m:Int)=true:=by
 unfold d01;have h1:E.bytes e*m≤1000*1000000000:=Nat.mul_le_mul hb h;have h2:((E.bytes e:Int)*(m:Int))=((E.bytes e*m:Nat):Int):=by simp
 rw[h2];simp only[Bool.and_eq_true,decide_eq_true_eq];omega
@[go_sem] theorem c5z{n m:Nat}{ps:List (Nat×AV)}:a2f E n t m ps=a0a (slT E t) λe=>a0a (E.zero e) λz=>bif decide (0<z.length)&&decide (m*z.length≤16777216)then
 a0a (b1f z.length (List.replicate m z) ps) λrows=>some (AV.slice n 0 m (some m),Eff.new (.row z.length rows))else none:=by
 cases hs:slT E t with
 |none=>
  unfold a2f;unfold slT at hs;cases hu:E.und t with
  |none=>rfl
  |some d=>cases d<;>first|rfl|(rw[hu]at hs;cases hs)
 |some e=>
  have hu:=a3f.1 hs;simp only[a2f,hu,a0a];cases E.zero e with
  |none=>rfl
  |some z=>
   simp only[c16,c3z];cases decide (0<z.length)&&decide (m*z.length≤16777216)with
   |false=>rfl
   |true=>simp only[cond_true];cases b1f z.length (List.replicate m z) ps<;>rfl
@[go_sem] theorem d2l(m:Nat)(rows:List (List AV)):b1f m rows []=some rows:=by rfl
@[go_sem] theorem d0e(m:Nat)(rows:List (List AV))(i:Nat)(v:AV)(r:List (Nat×AV)):b1f m rows ((i,v)::r)=bif !v.isJunk&&decide (v.cells.length=m)&&decide (i<rows.length)then b1f m (rows.set i v.cells) r else none:=by simp only[b1f,c17,c16]
@[go_sem] theorem d2r(pl:Nat→Option (Nat×Nat))(cs:List AV):a8t pl cs []=some cs:=by rfl
@[go_sem] theorem d0h(pl:Nat→Option (Nat×Nat))(cs:List AV)(i:Nat)(v:AV)(r:List (Nat×AV)):a8t pl cs ((i,v)::r)=a0a (pl i) λx=>bif !v.isJunk&&decide (v.cells.length=x.2)&&decide (x.1+x.2≤cs.length)then a8t pl (splice cs x.1 v.cells) r else none:=by
 simp only[a8t];cases pl i with
 |none=>rfl
 |some x=>simp only[a0a,c17,c3z]
@[go_sem] theorem d45{H:a03}{o:AObj}:a99 H (.new o)=H++[some o]:=by rfl
@[go_sem] theorem d44{H:a03}{b:Nat}{o:AObj}:a99 H (.set b o)=H.set b (some o):=by rfl
@[go_sem] theorem d2c{H:a03}{b:Nat}{o:AObj}:a99 H (.kill b o)=H.set b none++[some o]:=by rfl
@[go_sem] theorem d43{n:Nat}{o:AObj}:Eff.fits n (.new o)=true:=by rfl
@[go_sem] theorem d42{n b:Nat}{o:AObj}:Eff.fits n (.set b o)=decide (b<n):=c16 b n
@[go_sem] theorem d26{n b:Nat}{o:AObj}:Eff.fits n (.kill b o)=decide (b<n):=c16 b n
attribute [go_sem] List.all_cons List.all_nil List.set_cons_zero List.set_cons_succ List.set_nil List.replicate_zero
end
@[go_sem] theorem d2g(k:IntKind)(n:Int):AV.cells (.int k n)=[(AV.int k n)]:=by rfl
@[go_sem] theorem c66(k:IntKind)(n:Int):AV.storable (.int k n)=true:=by rfl
@[go_sem] theorem d3s(k:IntKind)(n:Int):AV.isJunk (.int k n)=false:=by rfl
@[go_sem] theorem c9m(k:IntKind)(n:Int):a0b (.int k n)=[]:=by rfl
@[go_sem] theorem d2f(s:List UInt8):AV.cells (.str s)=[(AV.str s)]:=by rfl
@[go_sem] theorem c65(s:List UInt8):AV.storable (.str s)=true:=by rfl
@[go_sem] theorem d3r(s:List UInt8):AV.isJunk (.str s)=false:=by rfl
@[go_sem] theorem c3y:AV.cells .nilslice=[AV.nilslice]:=by rfl
@[go_sem] theorem b9i:AV.storable .nilslice=true:=by rfl
@[go_sem] theorem c1b:a0b .nilslice=[]:=by rfl
@[go_sem] theorem c9k(b i o:Nat):a0b (.ptr b i o)=[b]:=by rfl
@[go_sem] theorem c77(l:List AV):a0b (.iptr l)=[]:=by rfl
@[go_sem] theorem c8r(b o n:Nat)(c:Option Nat):AV.cells (.slice b o n c)=[(AV.slice b o n c)]:=by rfl
@[go_sem] theorem c3v(b o n:Nat)(c:Option Nat):AV.storable (.slice b o n c)=true:=by rfl
@[go_sem] theorem d04(b o n:Nat)(c:Option Nat):AV.isJunk (.slice b o n c)=false:=by rfl
@[go_sem] theorem c63(b o n:Nat)(c:Option Nat):a0b (.slice b o n c)=[b]:=by rfl
@[go_sem] theorem c1d(r:List (List AV))(c:Option Nat):AV.storable (.islice r c)=true:=by rfl
@[go_sem] theorem c47(r:List (List AV))(c:Option Nat):a0b (.islice r c)=[]:=by rfl
@[go_sem] theorem c9l(b:Nat):a0b (.map b)=[b]:=by rfl
@[go_sem] theorem d2h(l:List AV):AV.cells (.agg l)=l:=by rfl
@[go_sem] theorem d3t(l:List AV):AV.isJunk (.agg l)=false:=by rfl
@[go_sem] theorem d3q(n:Nat)(o:AObj):Eff.keys n (.new o)=[n]:=by rfl
@[go_sem] theorem d3p(n b:Nat)(o:AObj):Eff.keys n (.set b o)=[b]:=by rfl
@[go_sem] theorem d1u(n b:Nat)(o:AObj):Eff.keys n (.kill b o)=[b,n]:=by rfl
@[go_sem] theorem d8t:1+1=2:=by rfl
@[go_sem] theorem d8s:2+1=3:=by rfl
@[go_sem] theorem d8r:3+1=4:=by rfl
@[go_sem] theorem d8q:4+1=5:=by rfl
@[go_sem] theorem d8p:5+1=6:=by rfl
@[go_sem] theorem d8o:6+1=7:=by rfl
@[go_sem] theorem d8n:7+1=8:=by rfl
@[go_sem] theorem d8m:8+1=9:=by rfl
@[go_sem] theorem d8l:9+1=10:=by rfl
@[go_sem] theorem d7c:10+1=11:=by rfl
@[go_sem] theorem d7b:11+1=12:=by rfl
@[go_sem] theorem d7a:12+1=13:=by rfl
@[go_sem] theorem d77:2+2=4:=by rfl
@[go_sem] theorem d76:2+3=5:=by rfl
@[go_sem] theorem d75:3+2=5:=by rfl
@[go_sem] theorem d74:3+3=6:=by rfl
@[go_sem] theorem d73:4+2=6:=by rfl
@[go_sem] theorem d72:5+2=7:=by rfl
@[go_sem] theorem d71:6+2=8:=by rfl
@[go_sem] theorem d70:6+3=9:=by rfl
@[go_sem] theorem d6z:7+2=9:=by rfl
@[go_sem] theorem d79:1+2=3:=by rfl
@[go_sem] theorem d78:1+3=4:=by rfl
@[go_sem] theorem d3b{α:Type}(a:α):List.replicate 1 a=[a]:=by rfl
@[go_sem] theorem d3a{α:Type}(a:α):List.replicate 2 a=[a,a]:=by rfl
@[go_sem] theorem d39{α:Type}(a:α):List.replicate 3 a=[a,a,a]:=by rfl
attribute [go_sem] List.map_cons List.map_nil List.append_nil List.nil_append List.cons_append List.length_cons List.length_nil a1j cond_true cond_false Option.map_some Option.map_none List.drop_zero List.drop_succ_cons List.take_succ_cons List.take_zero List.drop_nil List.take_nil List.getElem?_cons_zero List.getElem?_cons_succ List.getElem?_nil Nat.zero_add Nat.add_zero Nat.zero_mul Nat.mul_one decide_true decide_false Bool.and_true Bool.true_and Bool.and_false Bool.false_and Bool.or_true Bool.true_or Bool.or_false Bool.false_or Bool.not_true Bool.not_false Option.bind_some Option.isSome_some a22 decide_eq_true_eq
end Go.Ax
/- AxFlat: values that refer to no mutable block: renaming and freezing leave them; calls on them. -/
namespace Go.Ax
mutual
theorem a44(π:Nat→Option Nat):∀(v:AV),refs v=[]→ren π v=v
 |.ptr ..,h=>by simp[refs]at h
 |.slice ..,h=>by simp[refs]at h
 |.map ..,h=>by simp[refs]at h
 |.yfn ..,h=>by simp[refs]at h
 |.func fn fs cs,h=>by simp only[refs,List.append_eq_nil_iff]at h;simp only[ren,a50 π fs h.1,a50 π cs h.2]
 |.iface t x,h=>by simp only[refs]at h;simp only[ren,a44 π x h]
 |.agg cs,h=>by simp only[refs]at h;simp only[ren,a50 π cs h]
 |.tuple cs,h=>by simp only[refs]at h;simp only[ren,a50 π cs h]
 |.junk,_|.bool _,_|.int ..,_|.str _,_|.nilptr,_|.nilslice,_|.nilmap,_|.nilfunc,_|.nilifc,_|.iptr _,_|.islice ..,_|.imap ..,_|.iset _,_=>rfl
theorem a50(π:Nat→Option Nat):∀(l:List AV),a0c l=[]→b6b π l=l
 | [],_=>rfl
 |v::vs,h=>by simp only[a0c,List.append_eq_nil_iff]at h;simp only[b6b,a44 π v h.1,a50 π vs h.2]
end
theorem a2a(π:Nat→Option Nat){l:List AV}(h:a0c l=[]):l.map (ren π)=l:=by rw[←a75];exact a50 π l h
mutual
theorem b0w(m:Nat)(top:Bool)(d:AV→Option AV):∀(v:AV),refs v=[]→a38 m top d v=some v
 |.ptr ..,h=>by simp[refs]at h
 |.slice ..,h=>by simp[refs]at h
 |.map ..,h=>by simp[refs]at h
 |.yfn ..,h=>by simp[refs]at h
 |.func fn fs cs,h=>by simp only[refs,List.append_eq_nil_iff]at h;simp only[a38,a56 m top d fs h.1,a56 m top d cs h.2]
 |.iface t x,h=>by simp only[refs]at h;simp only[a38,b0w m top d x h]
 |.agg cs,h=>by simp only[refs]at h;simp only[a38,a56 m top d cs h]
 |.tuple cs,h=>by simp only[refs]at h;simp only[a38,a56 m top d cs h]
 |.junk,_|.bool _,_|.int ..,_|.str _,_|.nilptr,_|.nilslice,_|.nilmap,_|.nilfunc,_|.nilifc,_|.iptr _,_|.islice ..,_|.imap ..,_|.iset _,_=>rfl
theorem a56(m:Nat)(top:Bool)(d:AV→Option AV):∀(l:List AV),a0c l=[]→a4k m top d l=some l
 | [],_=>rfl
 |v::vs,h=>by simp only[a0c,List.append_eq_nil_iff]at h;simp only[a4k,b0w m top d v h.1,a56 m top d vs h.2]
end
def FlatR(rows:List (List AV)):Prop:=∀r∈rows,a0c r=[]
theorem FlatR.nil:FlatR []:=λr h=>by simp at h
theorem FlatR.cons{r:List AV}{rows:List (List AV)}(h:a0c r=[])(hs:FlatR rows):FlatR (r::rows):=by
 intro x hx;simp only[List.mem_cons]at hx;rcases hx with rfl|hx
 ·exact h
 ·exact hs x hx
theorem FlatR.append{a b:List (List AV)}(h:FlatR a)(k:FlatR b):FlatR (a++b):=by intro x hx;simp only[List.mem_append]at hx;exact hx.elim (h x) (k x)
theorem FlatR.map{α:Type}{f:α→List AV}{l:List α}(h:∀x,a0c (f x)=[]):FlatR (l.map f):=by intro x hx;simp only[List.mem_map]at hx;obtain⟨y,_,rfl⟩:=hx;exact h y
theorem FlatR.replicate{n:Nat}{r:List AV}(h:a0c r=[]):FlatR (List.replicate n r):=by intro x hx;rw[(List.mem_replicate.1 hx).2];exact h
theorem a1t{rows:List (List AV)}(h:FlatR rows):rows.flatMap a0c=[]:=by rw[List.flatMap_eq_nil_iff];exact h
theorem a1c(π:Nat→Option Nat){rows:List (List AV)}(h:FlatR rows):rows.map (λr=>r.map (ren π))=rows:=by
 conv=>rhs;rw[←List.map_id rows]
 exact List.map_congr_left λr hr=>a2a π (h r hr)
theorem a39(m:Nat)(d:AV→Option AV):∀{rows:List (List AV)},FlatR rows→a7n m d rows=some rows
 | [],_=>rfl
 |r::rs,h=>by simp only[a7n,a56 m false d r (h r (by simp)),a39 m d (rows:=rs) (λx hx=>h x (by simp[hx]))]
/-! ### slices that are immutable, nil or not -/
def sl(c:Option (Option Nat))(rows:List (List AV)):AV:=match c,rows with
 |none,[]=>.nilslice
 |none,r::rs=>.islice (r::rs) none
 |some c,rows=>.islice rows c
@[go_sem] theorem b6i(c:Option Nat)(rows:List (List AV)):sl (some c) rows = .islice rows c:=by cases rows<;>rfl
@[go_sem] theorem c7c:sl none [] = .nilslice:=by rfl
@[go_sem] theorem a89(c:Option (Option Nat))(rows:List (List AV)):refs (sl c rows)=[]:=by cases c<;>cases rows<;>rfl
@[go_sem] theorem b7y(π:Nat→Option Nat)(c:Option (Option Nat))(rows:List (List AV)):ren π (sl c rows)=sl c rows:=a44 π _ (a89 c rows)
@[go_sem] theorem d0p(c:Option (Option Nat))(rows:List (List AV)):a0b (sl c rows)=[]:=by cases c<;>cases rows<;>rfl
@[go_sem] theorem c78(c:Option (Option Nat))(rows:List (List AV)):(sl c rows).storable=true:=by cases c<;>cases rows<;>rfl
section
variable {E:Env}{h:FHeap}{t e:TypeId}{c:Option (Option Nat)}{rows:List (List AV)}{k:IntKind}
@[go_sem] theorem d6j(hs:(slT E t).isSome=true):b6c E h t (sl c rows)=some (.int .i64 rows.length):=by obtain⟨e,he⟩:=Option.isSome_iff_exists.1 hs;have ht:=a3f.1 he;cases c<;>cases rows<;>simp[sl,b6c,ht]
@[go_sem] theorem d5s{i:Int}:a0j E h t (sl c rows) (.int k i)=match slT E t with|some e=>d1y E (some e) (b3j rows i)|none=>a0j E h t (sl c rows) (.int k i):=by
 cases c with
 |some c=>rw[b6i];exact b0r
 |none=>cases rows with
  |nil=>
   cases hs:slT E t with
   |none=>rfl
   |some e=>
    have hu:=a3f.1 hs;simp only[sl,a0j,hu,d1y];cases h2:b3j [] i with
    |none=>simp
    |some r=>unfold b3j at h2;split at h2<;>simp at h2
  |cons a l=>exact b0r
end
/-! ### calls -/
@[go_sem] theorem d6c(a:AV):a43 0 [a]=[(0,a)]:=by rfl
@[go_sem] theorem d6b(a b:AV):a43 0 [a,b]=[(0,a),(1,b)]:=by rfl
@[go_sem] theorem d6a(a b c:AV):a43 0 [a,b,c]=[(0,a),(1,b),(2,c)]:=by rfl
theorem b08(n:Nat)(H1:a03):∀(b:Nat) (H:a03),a17 [] n H1 b H=H
 |_,[]=>rfl
 |b,o::r=>by simp only[a17,List.idxOf?_nil,b08 n H1 (b+1) r]
theorem b5y{run:List AV→a03→Option (AV×a03)}{args:List AV}{H:a03}{v:AV}(ha:a0c args=[])(h:run args []=some (v,[]))(hv:refs v=[]):a26 run args H=some (v,H,[]):=by
 unfold a26;have hr:a2i H a3s (a0c args) []=[]:=by rw[ha];rfl
 simp only[hr,a41,List.all_nil,Bool.and_self,cond_true,a2a _ ha,a4d,List.map_nil,h,a44 _ v hv,b08,List.drop_nil,List.append_nil,List.length_nil]
theorem a08{E:Env}{draw:Bool}{call:CallF}{g:FuncId}{fs cs ar args:List AV}{H:a03}{v:AV}(hx:E.ext g=false)(hf:(E.fn g).isSome=true)(he:fs++ar++cs=args)(ha:a0c args=[])(h:call g args []=some (v,[]))(hv:refs v=[]) :
 a0o E draw call (.func (.func g) fs cs) ar H=some (v,H,[]):=by
 simp only[a0o,hx,hf,he,cond_true,cond_false,b5y ha h hv];cases draw
 ·rfl
 ·simp only[Bool.true_and];rw[show Nat.ble H.length H.length=true by rw[Nat.ble_eq];exact Nat.le_refl _];rfl
@[go_sem] theorem d3j(k:IntKind)(n:Int):refs (.int k n)=[]:=by rfl
@[go_sem] theorem d19(b:Bool):refs (.bool b)=[]:=by rfl
@[go_sem] theorem d3g(s:List UInt8):refs (.str s)=[]:=by rfl
@[go_sem] theorem c7p(r:List (List AV))(c:Option Nat):refs (.islice r c)=[]:=by rfl
@[go_sem] theorem d17(r:List AV):refs (.iptr r)=[]:=by rfl
@[go_sem] theorem c4f:refs .nilslice=[]:=by rfl
@[go_sem] theorem a2u(l:List AV):refs (.agg l)=a0c l:=by rfl
@[go_sem] theorem d18(f:Fn)(a b:List AV):refs (.func f a b)=a0c a++a0c b:=by rfl
@[go_sem] theorem d3h(b i o:Nat):refs (.ptr b i o)=[b]:=by rfl
@[go_sem] theorem c9v(b i o:Nat)(c:Option Nat):refs (.slice b i o c)=[b]:=by rfl
@[go_sem] theorem d3i(b:Nat):refs (.map b)=[b]:=by rfl
@[go_sem] theorem d1c:a0c []=[]:=by rfl
@[go_sem] theorem a0n(v:AV)(l:List AV):a0c (v::l)=refs v++a0c l:=by rfl
/-! ### what a loop's head keeps -/
/-! ### globals -/
def gV:Option (List AV)→AV|some cs=>.iptr cs|none=>.junk
@[go_sem] theorem d3k{E:Env}{F:Frm}(g:Nat):opv E F (.global g)=gV (E.G g):=by simp only[opv,gV];cases E.G g<;>rfl
@[go_sem] theorem d5t(cs:List AV):gV (some cs) = .iptr cs:=by rfl
end Go.Ax
/- AxBits: words of 64 bits; sums that fit. -/
namespace Go.Ax
def u64(x:BitVec 64):AV:=.int .u64 (x.toNat:Int)
section
variable {E:Env}{t:TypeId}{c:Bool}{x y:BitVec 64}{k:IntKind}
def c4z(E:Env)(t:TypeId):Option IntKind:=match E.und t with|some (.int k)=>some k|_=>none
theorem b8l{k:IntKind}:c4z E t=some k→E.und t=some (.int k):=by
 unfold c4z;intro h;split at h
 ·rename_i heq;cases h;exact heq
 ·cases h
def cvI(k:IntKind)(n:Int):AV:=.int k (k.wrap n)
@[go_sem] theorem d6e(n:Int):cvI .i64 n = .int .i64 (IntKind.i64.wrap n):=by rfl
@[go_sem] theorem d7x(n:Int):cvI .u8 n = .int .u8 (IntKind.u8.wrap n):=by rfl
@[go_sem] theorem d47{h:FHeap}{s d:TypeId}{k:IntKind}{n:Int}(hs:isT E s=true):a5c E h s d (.int k n)=match c4z E d with|some k'=>some (cvI k' n)|none=>a5c E h s d (.int k n):=by
 cases hd:c4z E d with
 |none=>rfl
 |some k'=>have hu:=b8l hd;obtain⟨ds,hds⟩:=Option.isSome_iff_exists.1 (show(E.und s).isSome=true from hs);simp only[a5c,hu,hds];cases ds<;>simp[c5y,hu,hds,cvI]
theorem w64{n:Int}(h1:-9223372036854775808≤n)(h2:n≤9223372036854775807):IntKind.i64.wrap n=n:=IntWalk.i64_in n ⟨h1,h2⟩
end
end Go.Ax
/- AxWp: what a statement comes to, by a condition on the end. -/
namespace Go.Ax
@[go_sem] theorem d1v(F:Frm):a2b [] F=[]:=by rfl
@[go_sem] theorem d03(s:Nat)(r:List Nat)(F:Frm):a2b (s::r) F=(s,a2d F s)::a2b r F:=by rfl
@[go_sem] theorem d1h(v:AV):a6w [v]=v:=by rfl
@[go_sem] theorem d1g(v w:AV)(l:List AV):a6w (v::w::l) = .tuple (v::w::l):=by rfl
@[go_sem] theorem d4a{E:Env}{F:Frm}{H:a03}:a0r E F H []=some []:=by rfl
@[go_sem] theorem d49{E:Env}{F:Frm}{H:a03}(t:Nat)(r:List ResultVar):a0r E F H (.tmp t::r)=a0a (a0r E F H r) λvs=>some (a2d F t::vs):=by simp only[a0r];cases a0r E F H r<;>rfl
@[go_sem] theorem d2n{E:Env}{F:Frm}{H:a03}(a t:Nat)(r:List ResultVar):a0r E F H (.cell a t::r)=a0a (a5p E (a02 H) t (a2d F a)) λv=>a0a (a0r E F H r) λvs=>some (v::vs):=by simp only[a0r];cases a5p E (a02 H) t (a2d F a)<;>cases a0r E F H r<;>rfl
abbrev b4h:=AExit→Frm→a03→Prop
def bk(id:Nat)(Q:b4h):b4h:=λe F H=>match e with|.exit i=>if i=id then Q .normal F H else Q (.exit i) F H|e=>Q e F H
def WpR:Code→Cx→Frm→a03→b4h→Prop
 |.skip,_,F,H,Q=>Q .normal F H
 |.label _,_,F,H,Q=>Q .normal F H
 |.exit id,_,F,H,Q=>Q (.exit id) F H
 |.ret,_,F,H,Q=>Q .ret F H
 |.seq a b,x,F,H,Q=>WpR a x F H λe F H=>match e with|.normal=>WpR b x F H Q|e=>Q e F H
 |.block id b,x,F,H,Q=>WpR b { x with cur:=id } F H (bk id Q)
 |.scope b,x,F,H,Q=>WpR b x F H Q
 |c,x,F,H,Q=>∃e F' H',Ev x c F H (e,F',H')∧Q e F' H'
def Wp(x:Cx)(c:Code)(F:Frm)(H:a03)(Q:b4h):Prop:=WpR c x F H Q
def sq(x:Cx)(b:Code)(Q:b4h):b4h:=λe F H=>match e with|.normal=>Wp x b F H Q|e=>Q e F H
def cx(E:Env)(M:List Fact)(m N:Nat)(g:FuncId)(cur:Nat):Cx:=⟨E,M,m,N,E.keep g,cur⟩
def lp{σ:Type}(m:Nat)(keep:List Nat)(Fs:σ→Frm)(Hs:σ→a03)(meas:σ→Nat)(Inv:σ→Prop)(n:Nat)(Q:b4h):b4h:=λe F H=>match e with|.normal=>∃s,gcD m keep F H=some (Fs s,Hs s)∧meas s<n∧Inv s|e=>Q e F H
def fq(E:Env)(g:FuncId)(m:Nat)(results:List ResultVar)(r:AV×a03):b4h:=λe F H=>match e with|.exit _=>False|_=>∃vs,a0r E F H results=some vs∧a42 (E.thaw g) m (a6w vs) H=some r
def lpJ(m:Nat)(keep:List Nat)(J:Nat→Frm→a03→Prop)(n:Nat)(Q:b4h):b4h:=λe F H=>match e with|.normal=>∃F1 H1 n',gcD m keep F H=some (F1,H1)∧n'<n∧J n' F1 H1|e=>Q e F H
@[irreducible] def c6j:AV→Option Bool|.bool b=>some b|_=>none
@[go_sem] theorem d7d:c6j (.bool true)=some true:=by unfold c6j;rfl
@[go_sem] theorem d7e:c6j (.bool false)=some false:=by unfold c6j;rfl
theorem c87{v:AV}{t:Bool}(h:c6j v=some t):v = .bool t:=by
 unfold c6j at h;split at h
 ·cases h;rfl
 ·cases h
def hs(E:Env)(M:List Fact)(N:Nat):Code→Frm→a03→Frm→a03→List LogE→Bool→Prop
 |.region id ops draw,F,H,F1,H1,log,t=>(a7i E draw N (sem E M) ops.toList ops.toList [] F H,true)=(some (F1,H1,log),t)
 |.cond c a b,F,H,F1,H1,log,t=>(c6j (opv E F c),F,H,[])=(some t,F1,H1,log)
 |_,_,_,_,_,_,_=>False
def sd:Code→List LogE→Bool
 |.region id ops draw,log=>!draw||logOk ops.toList log.length log
 |_,_=>true
def ct(x:Cx):Code→Bool→Frm→a03→b4h→Prop
 |.region id ops draw,t,F,H,Q=>Q .normal F H
 |.cond c a b,t,F,H,Q=>Wp x (bif t then a else b) F H Q
 |_,_,_,_,_=>False
@[go_sem] theorem e0p(E:Env)(M:List Fact)(N:Nat)(id ops draw F H F1 H1 log t):hs E M N (.region id ops draw) F H F1 H1 log t=((a7i E draw N (sem E M) ops.toList ops.toList [] F H,true)=(some (F1,H1,log),t)):=by rfl
@[go_sem] theorem e0q(E:Env)(M:List Fact)(N:Nat)(c a b F H F1 H1 log t):hs E M N (.cond c a b) F H F1 H1 log t=((c6j (opv E F c),F,H,[])=(some t,F1,H1,log)):=by rfl
theorem wx:(∀x id ops draw t F H Q,ct x (.region id ops draw) t F H Q=Q .normal F H)∧(∀x c a b F H Q,ct x (.cond c a b) true F H Q=Wp x a F H Q)∧(∀x c a b F H Q,ct x (.cond c a b) false F H Q=Wp x b F H Q):=⟨λ_ _ _ _ _ _ _ _=>rfl,λ_ _ _ _ _ _ _=>rfl,λ_ _ _ _ _ _ _=>rfl⟩
theorem ww:(∀x F H Q,Wp x .skip F H Q=Q .normal F H)∧(∀x F H Q l,Wp x (.label l) F H Q=Q .normal F H)∧(∀x F H Q i,Wp x (.exit i) F H Q=Q (.exit i) F H)∧(∀x F H Q,Wp x .ret F H Q=Q .ret F H)∧
 (∀x a b F H Q,Wp x (.seq a b) F H Q=Wp x a F H (sq x b Q))∧(∀E M m N g cur i b F H Q,Wp (cx E M m N g cur) (.block i b) F H Q=Wp (cx E M m N g i) b F H (bk i Q))∧(∀x b F H Q,Wp x (.scope b) F H Q=Wp x b F H Q)∧
 (∀x b F H Q,sq x b Q .normal F H=Wp x b F H Q)∧(∀x b F H Q i,sq x b Q (.exit i) F H=Q (.exit i) F H)∧(∀x b F H Q,sq x b Q .ret F H=Q .ret F H)∧
 (∀i F H Q,bk i Q .normal F H=Q .normal F H)∧(∀i F H Q,bk i Q .ret F H=Q .ret F H)∧(∀i F H Q,bk i Q (.exit i) F H=Q .normal F H)∧(∀i j F H Q,(j=i)=False→bk i Q (.exit j) F H=Q (.exit j) F H)∧
 (∀m keep J n Q i F H,lpJ m keep J n Q (.exit i) F H=Q (.exit i) F H)∧(∀m keep J n Q F H,lpJ m keep J n Q .ret F H=Q .ret F H)∧
 (∀(σ:Type) m keep (Fs:σ→Frm) Hs meas Inv n Q i F H,lp m keep Fs Hs meas Inv n Q (.exit i) F H=Q (.exit i) F H)∧(∀(σ:Type) m keep (Fs:σ→Frm) Hs meas Inv n Q F H,lp m keep Fs Hs meas Inv n Q .ret F H=Q .ret F H)∧
 (∀a b:Code,cond true a b=a)∧(∀a b:Code,cond false a b=b)∧
 (∀x id ops draw t F H Q,ct x (.region id ops draw) t F H Q=Q .normal F H)∧(∀x c a b F H Q,ct x (.cond c a b) true F H Q=Wp x a F H Q)∧(∀x c a b F H Q,ct x (.cond c a b) false F H Q=Wp x b F H Q):=
 ⟨λ_ _ _ _=>rfl,λ_ _ _ _ _=>rfl,λ_ _ _ _ _=>rfl,λ_ _ _ _=>rfl,λ_ _ _ _ _ _=>rfl,λ_ _ _ _ _ _ _ _ _ _ _=>rfl,λ_ _ _ _ _=>rfl,λ_ _ _ _ _=>rfl,λ_ _ _ _ _ _=>rfl,λ_ _ _ _ _=>rfl,
  λ_ _ _ _=>rfl,λ_ _ _ _=>rfl,λi F H Q=>by simp only[bk,if_pos],λi j F H Q h=>by simp only[bk,h,if_false],λ_ _ _ _ _ _ _ _=>rfl,λ_ _ _ _ _ _ _=>rfl,λ_ _ _ _ _ _ _ _ _ _ _ _=>rfl,λ_ _ _ _ _ _ _ _ _ _ _=>rfl,λ_ _=>rfl,λ_ _=>rfl,wx⟩
theorem c19:∀(c:Code) {x:Cx} {F:Frm} {H:a03} {Q:b4h},Wp x c F H Q→∃e F' H',Ev x c F H (e,F',H')∧Q e F' H':=by
 intro c
 induction c with
 |skip=>intro x F H Q h;exact⟨_,_,_,Ev.skip,h⟩
 |label l=>intro x F H Q h;exact⟨_,_,_,Ev.label,h⟩
 |exit i=>intro x F H Q h;exact⟨_,_,_,Ev.leave,h⟩
 |ret=>intro x F H Q h;exact⟨_,_,_,Ev.ret,h⟩
 |seq a b iha ihb=>
  intro x F H Q h;obtain⟨e,F',H',h1,h2⟩:=iha h;cases e with
  |normal=>obtain⟨e2,F2,H2,h3,h4⟩:=ihb h2;exact⟨e2,F2,H2,Ev.seq h1 h3,h4⟩
  |exit id=>exact⟨_,_,_,Ev.seq_exit h1,h2⟩
  |ret=>exact⟨_,_,_,Ev.seq_ret h1,h2⟩
 |block id b ih=>
  intro x F H Q h;obtain⟨e,F',H',h1,h2⟩:=ih h;cases e with
  |normal=>exact⟨_,_,_,Ev.block h1,h2⟩
  |exit i=>
   by_cases hi:i=id
   ·subst hi;simp only[bk,if_pos]at h2;exact⟨_,_,_,Ev.block_exit h1,h2⟩
   ·simp only[bk,if_neg hi]at h2;exact⟨_,_,_,Ev.block_on h1 (by simpa using hi),h2⟩
  |ret=>exact⟨_,_,_,Ev.block_ret h1,h2⟩
 |scope b ih=>intro x F H Q h;obtain⟨e,F',H',h1,h2⟩:=ih h;exact⟨e,F',H',Ev.scope h1,h2⟩
 |_=>intro x F H Q h;exact h
theorem c70:∀{c:Code} {x:Cx} {F:Frm} {H:a03} {Q Q':b4h},Wp x c F H Q→(∀e F H,Q e F H→Q' e F H)→Wp x c F H Q':=by
 intro c
 induction c with
 |skip=>intro x F H Q Q' h hq;exact hq _ _ _ h
 |label l=>intro x F H Q Q' h hq;exact hq _ _ _ h
 |exit i=>intro x F H Q Q' h hq;exact hq _ _ _ h
 |ret=>intro x F H Q Q' h hq;exact hq _ _ _ h
 |seq a b iha ihb=>
  intro x F H Q Q' h hq;refine iha (Q:=sq x b Q) (Q':=sq x b Q') h ?_;intro e F H h;cases e with
  |normal=>exact ihb (x:=x) h hq
  |exit id=>exact hq _ _ _ h
  |ret=>exact hq _ _ _ h
 |block id b ih=>
  intro x F H Q Q' h hq;refine ih (Q:=bk id Q) (Q':=bk id Q') h ?_;intro e F H h;cases e with
  |normal=>exact hq _ _ _ h
  |exit i=>
   simp only[bk]at h⊢;split
   ·rename_i hi;rw[if_pos hi]at h;exact hq _ _ _ h
   ·rename_i hi;rw[if_neg hi]at h;exact hq _ _ _ h
  |ret=>exact hq _ _ _ h
 |scope b ih=>intro x F H Q Q' h hq;exact ih (x:=x) h hq
 |_=>intro x F H Q Q' h hq;obtain⟨e,F',H',h1,h2⟩:=h;exact⟨e,F',H',h1,hq _ _ _ h2⟩
section
variable {x:Cx}{F F1:Frm}{H H1:a03}{Q:b4h}
theorem xs{E:Env}{M:List Fact}{m N:Nat}{g:FuncId}{cur:Nat}{id ops draw}{log:List LogE}(h:a7i E draw N (sem E M) ops.toList ops.toList [] F H=some (F1,H1,log))(hl:(!draw||logOk ops.toList log.length log)=true)(hq:Q .normal F1 H1):Wp (cx E M m N g cur) (.region id ops draw) F H Q:=⟨_,_,_,Ev.region h hl,hq⟩
theorem xI{E:Env}{M:List Fact}{m N:Nat}{g:FuncId}{cur:Nat}{c a b t}(hc:opv E F c = .bool t)(h:Wp (cx E M m N g cur) (bif t then a else b) F H Q):Wp (cx E M m N g cur) (.cond c a b) F H Q:=by
 cases t
 ·obtain⟨e,F',H',h1,h2⟩:=c19 _ h;exact⟨e,F',H',Ev.cond_f hc h1,h2⟩
 ·obtain⟨e,F',H',h1,h2⟩:=c19 _ h;exact⟨e,F',H',Ev.cond_t hc h1,h2⟩
theorem d0n{E:Env}{M:List Fact}{m N:Nat}{g:FuncId}{cur:Nat}{keep:List Nat}{b:Code}(hk:E.keep g cur=keep)(J:Nat→Frm→a03→Prop)(n0:Nat)(h0:∃F1 H1,gcD m keep F H=some (F1,H1)∧J n0 F1 H1)
 (h:∀n F1 H1,J n F1 H1→Wp (cx E M m N g cur) b F1 H1 (lpJ m keep J n Q)):∃r:AExit×Frm×a03,Q r.1 r.2.1 r.2.2∧EvL (cx E M m N g cur) b F H r:=by
 subst hk;have key:∀n F H F1 H1,gcD m (E.keep g cur) F H=some (F1,H1)→J n F1 H1→∃r:AExit×Frm×a03,Q r.1 r.2.1 r.2.2∧EvL (cx E M m N g cur) b F H r:=by
  intro n
  induction n using Nat.strongRecOn with
  |ind n ih=>
   intro F H F1 H1 hg hJ;obtain⟨e,F',H',h1,h2⟩:=c19 _ (h n F1 H1 hJ);cases e with
   |normal=>obtain⟨F2,H2,n',g1,g2,g3⟩:=h2;obtain⟨r,hr,hl⟩:=ih n' g2 F' H' F2 H2 g1 g3;exact⟨r,hr,EvL.again (x:=cx E M m N g cur) hg h1 hl⟩
   |exit id=>exact⟨(_,_,_),h2,EvL.leave (x:=cx E M m N g cur) hg h1 (λh=>by cases h)⟩
   |ret=>exact⟨(_,_,_),h2,EvL.leave (x:=cx E M m N g cur) hg h1 (λh=>by cases h)⟩
 obtain⟨F1,H1,hg,hJ⟩:=h0;exact key n0 F H F1 H1 hg hJ
theorem a9v{E:Env}{M:List Fact}{m N:Nat}{g:FuncId}{cur:Nat}{keep:List Nat}{b:Code}(hk:E.keep g cur=keep)(J:Nat→Frm→a03→Prop)(n0:Nat)(h0:∃F1 H1,gcD m keep F H=some (F1,H1)∧J n0 F1 H1)
 (h:∀n F1 H1,J n F1 H1→Wp (cx E M m N g cur) b F1 H1 (lpJ m keep J n Q))(hz:c8g keep=false:=by rfl)(hx:a7j b=none:=by rfl):Wp (cx E M m N g cur) (.loop b) F H Q:=by
 obtain⟨⟨e,F',H'⟩,hr,hl⟩:=d0n hk J n0 h0 h;exact⟨e,F',H',Ev.loop hx (by rw[←hk]at hz;exact hz) hl,hr⟩
def fz(m:Nat)(Q:b4h):b4h:=λe F H=>Q e (c2p m H F) (c15 m H)
theorem a13{E:Env}{M:List Fact}{m N:Nat}{g:FuncId}{cur:Nat}{keep:List Nat}{b:Code}(hk:E.keep g cur=keep){σ:Type}(Fs:σ→Frm)(Hs:σ→a03)(meas:σ→Nat)(Inv:σ→Prop)(s0:σ)(h0:gcD m keep F H=some (Fs s0,Hs s0))(hi:Inv s0)
 (h:∀s,Inv s→Wp (cx E M m N g cur) b (Fs s) (Hs s) (lp m keep Fs Hs meas Inv (meas s) Q))(hz:c8g keep=false:=by rfl)(hx:a7j b=none:=by rfl):Wp (cx E M m N g cur) (.loop b) F H Q:=by
 refine a9v hk (λn F1 H1=>∃s,F1=Fs s∧H1=Hs s∧n=meas s∧Inv s) (meas s0) ⟨_,_,h0,s0,rfl,rfl,rfl,hi⟩ ?_ hz hx
 rintro n F1 H1 ⟨s,rfl,rfl,rfl,hs⟩
 refine c70 (h s hs) ?_;intro e F' H' h2;cases e with
 |normal=>obtain⟨s',g1,g2,g3⟩:=h2;exact⟨_,_,_,g1,g2,s',rfl,rfl,rfl,g3⟩
 |exit id=>exact h2
 |ret=>exact h2
theorem a0l{E:Env}{M:List Fact}{m N:Nat}{g:FuncId}{cur:Nat}{keep:List Nat}(hk:E.keep g cur=keep){b:Code}{σ:Type}(Fs:σ→Frm)(Hs:σ→a03)(meas:σ→Nat)(Inv:σ→Prop)(s0:σ)(h0:gcD m keep F H=some (Fs s0,Hs s0))(hi:Inv s0)
 (_:∀s,Inv s→gcD m keep (Fs s) (Hs s)=some (Fs s,Hs s))(h:∀s,Inv s→Wp (cx E M m N g cur) b (Fs s) (Hs s) (lp m keep Fs Hs meas Inv (meas s) Q))(hz:c8g keep=false:=by rfl)(hx:a7j b=none:=by rfl):Wp (cx E M m N g cur) (.loop b) F H Q:=a13 hk Fs Hs meas Inv s0 h0 hi h hz hx
theorem a54{m:Nat}{keep:List Nat}{J:Nat→Frm→a03→Prop}{n:Nat}(n':Nat)(hn:n'<n)(h:∃F1 H1,gcD m keep F H=some (F1,H1)∧J n' F1 H1):lpJ m keep J n Q .normal F H:=by obtain⟨F1,H1,h1,h2⟩:=h;exact⟨F1,H1,n',h1,hn,h2⟩
theorem a1k{σ:Type}{m:Nat}{keep:List Nat}{Fs:σ→Frm}{Hs:σ→a03}{meas:σ→Nat}{Inv:σ→Prop}{n:Nat}(s:σ)(h1:gcD m keep F H=some (Fs s,Hs s))(h2:meas s<n)(h3:Inv s):lp m keep Fs Hs meas Inv n Q .normal F H:=⟨s,h1,h2,h3⟩
end
theorem d0z{E:Env}{M:List Fact}{g:FuncId}{args:List AV}{H:a03}{code:Code}{N:Nat}{results:List ResultVar}{r:AV×a03}
 (hfn:E.fn g=some ⟨code,N,results⟩)(hno:∀y∈M,y.g≠g)(hN:Nat.ble args.length N=true){m:Nat}(hm:H.length=m)(h:Wp (cx E M m N g 0) code (a43 0 args) H (fq E g m results r))(hp:E.prim g args=none:=by rfl)(hz:E.zf g=false:=by rfl)(hw:E.raw g=false:=by rfl):sem E M g args H=some r:=by
 subst hm;obtain⟨e,F',H',h1,h2⟩:=c19 _ h;obtain⟨v,H2⟩:=r;cases e with
 |normal=>obtain⟨vs,h3,h4⟩:=h2;exact b7s hfn hno hN h1 (λ_ h=>by cases h) h3 h4 hp hz hw
 |ret=>obtain⟨vs,h3,h4⟩:=h2;exact b7s hfn hno hN h1 (λ_ h=>by cases h) h3 h4 hp hz hw
 |exit id=>exact h2.elim
theorem xa{E:Env}{M:List Fact}{m N:Nat}{g:FuncId}{cur:Nat}{c:Code}{F F1:Frm}{H H1:a03}{log:List LogE}{t:Bool}{Q:b4h}(h:hs E M N c F H F1 H1 log t)(hl:sd c log=true)(k:ct (cx E M m N g cur) c t F1 H1 Q):Wp (cx E M m N g cur) c F H Q:=by
 cases c with
 |region id ops draw=>exact xs (congrArg Prod.fst h) hl k
 |cond c a b=>have h1:opv E F c = .bool t:=c87 (congrArg Prod.fst h);have h2:(F,H,([]:List LogE))=(F1,H1,log):=congrArg Prod.snd h;cases h2;exact xI h1 k
 |_=>exact k.elim
theorem gS:(∀a b:Code,(some a).getD b=a)∧(∀l:List ResultVar,(List.toArray l).toList=l):=⟨λ_ _=>rfl,λ_=>rfl⟩
def AExit.fin:AExit→Bool
 |.exit _=>false
 |_=>true
@[go_sem] theorem d98:AExit.ret.fin=true:=by rfl
theorem fqb{E:Env}{g:FuncId}{m:Nat}{results:List ResultVar}{r:AV×a03}{e:AExit}{F:Frm}{H:a03}(h:(bif e.fin then a0a (a0r E F H results) λvs=>a42 (E.thaw g) m (a6w vs) H else none)=some r):fq E g m results r e F H:=by
 cases ha:a0r E F H results with
 |none=>rw[ha]at h;cases e<;>cases h
 |some vs=>
  rw[ha]at h;cases e with
  |exit i=>cases h
  |_=>exact⟨vs,ha,h⟩
theorem sv{E:Env}{M:List Fact}{g:FuncId}{args:List AV}{H:a03}{r:AV×a03}(f:Func)(h:Wp (cx E M H.length f.ntmps g 0) (f.body.getD .skip) (a43 0 args) H (fq E g H.length f.results.toList r))(hfn:E.fn g=some ⟨f.body.getD .skip,f.ntmps,f.results.toList⟩:=by kernel_rfl)
 (hno:(M.all λy=>!Nat.beq y.g g)=true:=by rfl)(hN:Nat.ble args.length f.ntmps=true:=by rfl)(hp:E.prim g args=none:=by rfl)(hz:E.zf g=false:=by rfl)(hw:E.raw g=false:=by rfl):sem E M g args H=some r:=d0z hfn (λy hy e=>by
 have:=List.all_eq_true.1 hno y hy;rw[e]at this;simp at this) hN rfl h hp hz hw
end Go.Ax
/- AxTyp: c73 abstract values, taken apart. -/
namespace Go.Ax
section
variable {E:Env}{n:Nat}{t e:TypeId}{avs:List AV}
theorem b4n{α:Type}{f:α→List AV}{P:α→Prop}(hs:slT E t=some e)(he:∀r,Typ E n e r→∃x,P x∧r=f x)(h:Typ E (n+1) t avs) :
 ∃(c:Option (Option Nat)) (l:List α),avs=[sl c (l.map f)]∧l.length≤maxLen∧∀x∈l,P x:=by
 simp only[Typ,a3f.1 hs]at h;rcases h with rfl|⟨rows,cap,rfl,h1,h2,h3⟩
 ·exact⟨none,[],rfl,by simp,by simp⟩
 ·have key:∀rows:List (List AV),(∀r∈rows,r.length=E.sz e∧Typ E n e r)→∃l:List α,rows=l.map f∧∀x∈l,P x:=by
   intro rows
   induction rows with
   |nil=>intro _;exact⟨[],rfl,by simp⟩
   |cons r rs ih=>
    intro hh;obtain⟨x,hx,rfl⟩:=he r (hh r (by simp)).2;obtain⟨l,rfl,hl⟩:=ih (λr hr=>hh r (by simp[hr]));refine⟨x::l,rfl,?_⟩;intro y hy;simp only[List.mem_cons]at hy;rcases hy with rfl|hy
    ·exact hx
    ·exact hl y hy
  obtain⟨l,rfl,hl⟩:=key rows h3;exact⟨some (some cap),l,by rw[b6i],by simpa using Nat.le_trans h1 h2,hl⟩
theorem c74{k:IntKind}(hk:c4z E t=some k)(h:Typ E (n+1) t avs):∃i,avs=[.int k i]∧(Lit.int k i).wf=true:=by simpa only[Typ,b8l hk]using h
theorem a4x(hk:c4z E t=some .u8)(h:Typ E (n+1) t avs):∃i:Nat,avs=[.int .u8 i]∧i<256:=by
 obtain⟨i,h1,h2⟩:=c74 hk h;simp only[Lit.wf,Bool.and_eq_true,decide_eq_true_eq]at h2;have e1:IntKind.u8.min=0:=by rfl
 have e2:IntKind.u8.max=255:=by rfl
 rw[e1,e2]at h2;exact⟨i.toNat,by rw[h1,Int.toNat_of_nonneg h2.1],by omega⟩
theorem b7l(hb:E.und t=some .bool)(h:Typ E (n+1) t avs):∃b,avs=[.bool b]:=by simpa only[Typ,hb]using h
def b3z(E:Env)(t:TypeId):Option (List TypeId):=match E.und t with|some (.struct fs)=>some (fs.toList.map (·.type))|_=>none
def b9e(E:Env)(n:Nat):List TypeId→List AV→Prop
 | [],avs=>avs=[]
 |t::ts,avs=>∃p r,avs=p++r∧Typ E n t p∧b9e E n ts r
theorem b1z{ts:List TypeId}(hf:b3z E t=some ts)(h:Typ E (n+1) t avs):b9e E n ts avs:=by
 unfold b3z at hf;split at hf
 case h_2=>cases hf
 rename_i fs hu;cases hf;simp only[Typ,hu]at h;obtain⟨parts,rfl,h1,h2⟩:=h;have key:∀(fs:List Field) (parts:List (List AV)),parts.length=fs.length→(∀(i:Nat) f p,fs[i]?=some f→parts[i]?=some p→p.length=E.sz f.type∧Typ E n f.type p)→b9e E n (fs.map (·.type)) parts.flatten:=by
  intro fs
  induction fs with
  |nil=>intro parts hl _;have:=List.length_eq_zero_iff.1 hl;subst this;rfl
  |cons f fs ih=>
   intro parts hl hh;cases parts with
   |nil=>simp at hl
   |cons p parts=>exact⟨p,parts.flatten,by simp,(hh 0 f p rfl rfl).2,ih parts (by simpa using hl) (λi f p hf hp=>hh (i+1) f p (by simpa using hf) (by simpa using hp))⟩
 exact key fs.toList parts h1 h2
theorem a9x{m:Nat}(hf:b98 E t=some (m,e))(h:Typ E (n+1) t avs):b9e E n (List.replicate m e) avs:=by
 unfold b98 at hf;split at hf
 case h_2=>cases hf
 rename_i m' e' hu;cases hf;simp only[Typ,hu]at h;obtain⟨parts,rfl,h1,h2⟩:=h;subst h1;clear hu
 induction parts with
 |nil=>rfl
 |cons p parts ih=>simp only[List.length_cons,List.replicate_succ];exact⟨p,parts.flatten,by simp,(h2 p (by simp)).2,ih (λq hq=>h2 q (by simp[hq]))⟩
theorem c43{a:AV}(hg:a9t E t=some true)(h:d0k E n t a):∃avs,a = .agg avs∧Typ E n t avs:=by
 unfold d0k at h;unfold a9t at hg;cases hu:E.und t with
 |none=>rw[hu]at h;exact h.elim
 |some d=>rw[hu]at h hg;simp only[Option.map_some,Option.some.injEq]at hg;simpa[hg]using h
end
end Go.Ax
/- AxHeap: calls on, and loops over, heaps of a few known blocks: what is reached, renamed and put back, ar rewrite rules. -/
namespace Go.Ax
@[go_sem] theorem c9w(H:a03)(n:Nat)(acc:List Nat):a2i H n [] acc=acc.reverse:=by cases n<;>rfl
theorem b9s(H:a03)(n:Nat)(b:Nat)(todo acc:List Nat):a2i H (n+1) (b::todo) acc=bif a11 acc b then a2i H n todo acc else a2i H n (a16 (a02 H b)++todo) (b::acc):=by rfl
@[go_sem] theorem c9x{n:Nat}(hn:(0<n)=True)(H:a03)(b:Nat)(todo acc:List Nat):a2i H n (b::todo) acc=bif a11 acc b then a2i H (n-1) todo acc else a2i H (n-1) (a16 (a02 H b)++todo) (b::acc):=by
 obtain⟨m,rfl⟩:∃m,n=m+1:=⟨n-1,by have:=of_eq_true hn;omega⟩
 exact b9s H m b todo acc
@[go_sem] theorem c5f(x:Nat):a11 [] x=false:=by rfl
@[go_sem] theorem c3x(a:Nat)(r:List Nat)(x:Nat):a11 (a::r) x=bif decide (a=x)then true else a11 r x:=by simp only[a11,c3w,c17]
@[go_sem] theorem c9z:a41 []=true:=by rfl
@[go_sem] theorem b6s(a:Nat)(r:List Nat):a41 (a::r)=(!(a11 r a)&&a41 r):=by rfl
@[go_sem] theorem d1a(k:Nat)(rows:List (List AV)):a16 (some (.row k rows))=rows.flatMap a0c:=by rfl
@[go_sem] theorem d1b(ks vs:List AV)(bs:List Nat)(c:Nat):a16 (some (.map ks vs bs c))=a0c ks++a0c vs:=by rfl
@[go_sem] theorem d5q(b:Nat):List.idxOf? b []=none:=by rfl
@[go_sem] theorem d3v(a:Nat)(l:List Nat)(b:Nat):List.idxOf? b (a::l)=bif decide (a=b)then some 0 else(List.idxOf? b l).map (·+ 1):=by rw[List.idxOf?_cons,c17];cases decide (a=b)<;>rfl
@[go_sem] theorem d5h(σ:List Nat)(b:Nat):a93 σ b=σ.idxOf? b:=by rfl
@[go_sem] theorem d2j(σ:List Nat)(n j:Nat):a1f σ n j=bif decide (j<σ.length)then σ[j]? else some (n+(j-σ.length)):=by simp only[a1f,c16]
@[go_sem] theorem c9p(H:a03)(π:Nat→Option Nat):a4d H [] π=[]:=by rfl
@[go_sem] theorem c7b(H:a03)(b:Nat)(σ:List Nat)(π:Nat→Option Nat):a4d H (b::σ) π=(a02 H b).map (a0h π)::a4d H σ π:=by rfl
@[go_sem] theorem c6f(σ:List Nat)(n:Nat)(H1:a03)(b:Nat):a17 σ n H1 b []=[]:=by rfl
def c1p(σ:List Nat)(n:Nat)(H1:a03)(o:Option AObj):Option Nat→Option AObj
 |some j=>(a02 H1 j).map (a0h (a1f σ n))
 |none=>o
@[go_sem] theorem c7q(σ:List Nat)(n:Nat)(H1:a03)(o:Option AObj)(j:Nat):c1p σ n H1 o (some j)=(a02 H1 j).map (a0h (a1f σ n)):=by rfl
@[go_sem] theorem c7r(σ:List Nat)(n:Nat)(H1:a03)(o:Option AObj):c1p σ n H1 o none=o:=by rfl
@[go_sem] theorem c6g(σ:List Nat)(n:Nat)(H1:a03)(b:Nat)(o:Option AObj)(r:a03):a17 σ n H1 b (o::r)=c1p σ n H1 o (σ.idxOf? b)::a17 σ n H1 (b+1) r:=by simp only[a17];cases σ.idxOf? b<;>rfl
@[go_sem] theorem c9t(π:Nat→Option Nat)(k:Nat)(rows:List (List AV)):a0h π (.row k rows) = .row k (rows.map λr=>r.map (ren π)):=by rfl
@[go_sem] theorem c9u(π:Nat→Option Nat)(ks vs:List AV)(bs:List Nat)(c:Nat):a0h π (.map ks vs bs c) = .map (ks.map (ren π)) (vs.map (ren π)) bs c:=by rfl
/- renaming a value -/
section
variable (π:Nat→Option Nat)
def d3f(f:Nat→AV):Option Nat→AV|some b=>f b|none=>.junk
@[go_sem] theorem d16(f:Nat→AV)(b:Nat):d3f f (some b)=f b:=by rfl
@[go_sem] theorem d57(b i o:Nat):ren π (.ptr b i o)=d3f (λb=>.ptr b i o) (π b):=by simp only[ren];cases π b<;>rfl
@[go_sem] theorem d14(b i o:Nat)(c:Option Nat):ren π (.slice b i o c)=d3f (λb=>.slice b i o c) (π b):=by simp only[ren];cases π b<;>rfl
@[go_sem] theorem d58(b:Nat):ren π (.map b)=d3f (λb=>.map b) (π b):=by simp only[ren];cases π b<;>rfl
@[go_sem] theorem d59(k:IntKind)(n:Int):ren π (.int k n) = .int k n:=by rfl
@[go_sem] theorem d3d(b:Bool):ren π (.bool b) = .bool b:=by rfl
@[go_sem] theorem d56(s:List UInt8):ren π (.str s) = .str s:=by rfl
@[go_sem] theorem c9s(r:List (List AV))(c:Option Nat):ren π (.islice r c) = .islice r c:=by rfl
@[go_sem] theorem c6e:ren π .nilslice = .nilslice:=by rfl
@[go_sem] theorem d5a(l:List AV):ren π (.agg l) = .agg (l.map (ren π)):=by simp only[ren,a75]
@[go_sem] theorem d3c(f:Fn)(a b:List AV):ren π (.func f a b) = .func f (a.map (ren π)) (b.map (ren π)):=by simp only[ren,a75]
@[go_sem] theorem d3e:b7z π []=[]:=by rfl
@[go_sem] theorem d15(s:Nat)(v:AV)(r:Frm):b7z π ((s,v)::r)=(s,ren π v)::b7z π r:=by rfl
end
@[go_sem] theorem c2k(m:Nat)(σ:List Nat)(b:Nat):b3v m σ b=bif decide (b<m)then some b else(σ.idxOf? b).map (m + ·):=by simp only[b3v,c16]
theorem a01{m:Nat}{keep:List Nat}{F:Frm}{H:a03}:gcD m keep F H=bif a41 (a8j m (a2b keep F) H)&&(a8j m (a2b keep F) H).all (λb=>decide (m≤b))&&decide (m≤H.length)then
 some (b7z (b3v m (a8j m (a2b keep F) H)) (a2b keep F),gcH m (a8j m (a2b keep F) H) H)else none:=by
 have e:(λb=>Nat.ble m b)=λb=>decide (m≤b):=funext λb=>c3z m b;simp only[gcD,e,c3z]
theorem a00(m:Nat)(F:Frm)(H:a03):a8j m F H=(a2i H 1000000 ((H.take m).flatMap a16++a0c (F.map (·.2))) []).filter λb=>decide (m≤b):=by have e:(λb=>Nat.ble m b)=λb=>decide (m≤b):=funext λb=>c3z m b;simp only[a8j,a3s,e]
@[go_sem] theorem c6k(m:Nat)(σ:List Nat)(H:a03):gcH m σ H=(H.take m).map (Option.map (a0h (b3v m σ)))++a4d H σ (b3v m σ):=by rfl
@[go_sem] theorem d69{α:Type}(p:α→Bool)(a:α)(l:List α):(a::l).filter p=bif p a then a::l.filter p else l.filter p:=by rw[List.filter_cons];cases p a<;>rfl
attribute [go_sem] List.reverse_cons List.reverse_nil List.filter_nil List.flatMap_cons List.flatMap_nil
theorem a59(run:List AV→a03→Option (AV×a03))(args:List AV)(H:a03){σ:List Nat}(hσ:a2i H 1000000 (a0c args) []=σ)(hn:a41 σ=true)(hl:(σ.all λb=>decide (b<H.length))=true)
 {args':List AV}(ha:args.map (ren (a93 σ))=args'){H0:a03}(hH:a4d H σ (a93 σ)=H0){v:AV}{H1:a03}(hr:run args' H0=some (v,H1)) :
 a26 run args H=some (ren (a1f σ H.length) v,a17 σ H.length H1 0 H++(H1.drop σ.length).map (Option.map (a0h (a1f σ H.length))),σ):=by
 have e:(λb=>Nat.blt b H.length)=λb=>decide (b<H.length):=funext λb=>c16 b H.length;unfold a26;simp only[a3s,hσ,hn,e,hl,Bool.and_self,cond_true,ha,hH,hr]
theorem a7v{E:Env}{draw:Bool}{call:CallF}{g:FuncId}{fs cs ar args:List AV}{H:a03}(hx:E.ext g=false)(hf:(E.fn g).isSome=true)(he:fs++ar++cs=args){v:AV}{H':a03}{σ:List Nat}
 (h:a26 (call g) args H=some (v,H',σ))(hl:H'.length=H.length):a0o E draw call (.func (.func g) fs cs) ar H=some (v,H',σ):=by
 have hb:Nat.ble H.length H.length=true:=by rw[Nat.ble_eq];exact Nat.le_refl _
 simp only[a0o,hx,hf,he,cond_true,cond_false,h,hl,hb,Bool.not_true,Bool.and_false]
/- freezing -/
@[go_sem] theorem c82{α β:Type}(a:α)(f:α→β)(d:β):c6i (some a) f d=f a:=by rfl
@[go_sem] theorem b5q{m:Nat}{v:AV}{H:a03}:a42 false m v H=c6i (a38 m true (a4q (a02 H) m 12) v) (λv'=>some (v',(H.take m).map (Option.map (a0h (a0y m))))) (some (v,H)):=by simp only[a42,cond_false];cases a38 m true (a4q (a02 H) m 12) v<;>rfl
section
variable {m:Nat}{top:Bool}{d:AV→Option AV}{h:FHeap}{n:Nat}
@[go_sem] theorem d5w(k:IntKind)(i:Int):a38 m top d (.int k i)=some (.int k i):=by rfl
@[go_sem] theorem d3z(b:Bool):a38 m top d (.bool b)=some (.bool b):=by rfl
@[go_sem] theorem d5u(s:List UInt8):a38 m top d (.str s)=some (.str s):=by rfl
@[go_sem] theorem d07(r:List (List AV))(c:Option Nat):a38 m top d (.islice r c)=some (.islice r c):=by rfl
@[go_sem] theorem c6m:a38 m top d .nilslice=some .nilslice:=by rfl
@[go_sem] theorem d7g(c:Option (Option Nat))(rows:List (List AV)):a38 m top d (sl c rows)=some (sl c rows):=b0w m top d _ (a89 c rows)
@[go_sem] theorem d5x(l:List AV):a38 m top d (.agg l)=a0a (a4k m top d l) λl=>some (.agg l):=by simp only[a38];cases a4k m top d l<;>rfl
@[go_sem] theorem d24(l:List AV):a38 m top d (.tuple l)=a0a (a4k m top d l) λl=>some (.tuple l):=by simp only[a38];cases a4k m top d l<;>rfl
@[go_sem] theorem d3y(f:Fn)(a b:List AV):a38 m top d (.func f a b)=a0a (a4k m top d a) λa=>a0a (a4k m top d b) λb=>some (.func f a b):=by simp only[a38];cases a4k m top d a<;>cases a4k m top d b<;>rfl
@[go_sem] theorem c55:a4k m top d []=some []:=by rfl
@[go_sem] theorem b5o(v:AV)(l:List AV):a4k m top d (v::l)=a0a (a38 m top d v) λv=>a0a (a4k m top d l) λl=>some (v::l):=by simp only[a4k];cases a38 m top d v<;>cases a4k m top d l<;>rfl
@[go_sem] theorem b0v(b o l:Nat)(c:Option Nat):a38 m top d (.slice b o l c)=bif decide (b<m)then(bif top then some (.slice b o l c)else none)else d (.slice b o l c):=by simp only[a38,c6n,c16]
@[go_sem] theorem d5v(b o l:Nat):a38 m top d (.ptr b o l)=bif decide (b<m)then(bif top then some (.ptr b o l)else none)else d (.ptr b o l):=by simp only[a38,c6n,c16]
@[go_sem] theorem a8l(hn:(0<n)=True)(b o l:Nat)(c:Option Nat):a4q h m n (.slice b o l c)=a0a (b04 (h b)) λkr=>bif decide (o+l≤kr.2.length)then a0a (a7n m (a4q h m (n-1)) ((kr.2.drop o).take l)) λrs=>some (.islice rs c)else none:=by
 obtain⟨n,rfl⟩:∃k,n=k+1:=⟨n-1,by have:=of_eq_true hn;omega⟩
 simp only[a4q,Nat.add_sub_cancel];cases hb:h b with
 |none=>simp only[hb];rfl
 |some ob=>cases ob<;>simp only[hb,b04,a0a,c3z];rename_i kk rows;cases a7n m (a4q h m n) ((rows.drop o).take l)<;>rfl
@[go_sem] theorem d40(hn:(0<n)=True)(b i o:Nat):a4q h m n (.ptr b i o)=a0a (b04 (h b)) λkr=>a0a (kr.2[i]?) λr=>a0a (a4k m false (a4q h m (n-1)) (r.drop o)) λcs=>some (.iptr cs):=by
 obtain⟨n,rfl⟩:∃k,n=k+1:=⟨n-1,by have:=of_eq_true hn;omega⟩
 simp only[a4q,Nat.add_sub_cancel];cases hb:h b with
 |none=>simp only[hb];rfl
 |some ob=>
  cases ob<;>simp only[hb,b04,a0a];rename_i kk rows;cases rows[i]? with
  |none=>rfl
  |some r=>simp only;cases a4k m false (a4q h m n) (r.drop o)<;>rfl
theorem b8s:a7n m d []=some []:=by rfl
theorem b0y(r:List AV)(rs:List (List AV)):a7n m d (r::rs)=a0a (a4k m false d r) λr=>a0a (a7n m d rs) λrs=>some (r::rs):=by simp only[a7n];cases a4k m false d r<;>cases a7n m d rs<;>rfl
theorem a15(a b:List (List AV)):a7n m d (a++b)=a0a (a7n m d a) λa=>a0a (a7n m d b) λb=>some (a++b):=by
 induction a with
 |nil=>simp only[List.nil_append,b8s,a0a];cases a7n m d b<;>rfl
 |cons x a ih=>
  simp only[List.cons_append,b0y,ih];cases a4k m false d x with
  |none=>rfl
  |some x=>simp only[a0a];cases a7n m d a<;>cases a7n m d b<;>rfl
attribute [go_sem] b8s b0y
end
/-! ### append -/
section
variable {E:Env}{h:FHeap}{n:Nat}
@[go_sem] theorem c8v(k b o l:Nat)(c:Option Nat):a1x h k (.slice b o l c)=a0a (b04 (h b)) λkr=>bif decide (kr.1=k)&&decide (o+l≤kr.2.length)then some ((kr.2.drop o).take l)else none:=by
 simp only[a1x];cases hb:h b with
 |none=>simp only[hb];rfl
 |some ob=>cases ob<;>simp only[hb,b04,a0a,c17,c3z]
def apT(E:Env)(st xt:TypeId):Option TypeId:=match E.und st,E.und xt with
 |some (.slice e),some dx=>bif a2c dx || !(E.zero e).isSome || !(Nat.blt 0 (E.sz e))then none else some e
 |_,_=>none
def apS(E:Env)(h:FHeap)(n:Nat)(elem:TypeId)(xs:List (List AV)):AV→Option (AV×Eff)
 |.nilslice=>match xs with
  | []=>some (.nilslice,.none)
  |y::ys=>bif a28 E elem (y::ys).length then some (.slice n 0 (y::ys).length none,.new (.row (E.sz elem) (y::ys)))else none
 |.islice rows cap=>bif rows.all (λr=>r.length==E.sz elem)then match xs with
  | []=>some (.islice rows cap,.none)
  |y::ys=>match cap with
   |some c=>bif Nat.blt c (rows.length+(y::ys).length)&&a28 E elem (rows.length+(y::ys).length)then
    some (.slice n 0 (rows.length+(y::ys).length) none,.new (.row (E.sz elem) (rows++(y::ys))))else none
   |none=>none
  else none
 |.slice b off len cap=>match h b with
  |some (.row kk rows)=>bif kk==E.sz elem&&Nat.ble (off+len) rows.length then
   match cap with
   |none=>bif a28 E elem (len+xs.length)&&xs.all (λr=>r.all AV.storable)then
    some (.slice n 0 (len+xs.length) none,.kill b (.row (E.sz elem) (bif Nat.beq (off+len) rows.length then rows.drop off++xs else(rows.drop off).take len++xs)))else none
   |some c=>bif Nat.ble (len+xs.length) c then
    bif Nat.ble (off+len+xs.length) rows.length&&xs.all (λr=>r.all AV.storable)then
     some (.slice b off (len+xs.length) (some c),.set b (.row (E.sz elem) (rows.take (off+len)++xs++rows.drop (off+len+xs.length))))else none
    else bif a28 E elem (len+xs.length)then
     some (.slice n 0 (len+xs.length) none,.new (.row (E.sz elem) ((rows.drop off).take len++xs)))else none
   else none
  |_=>none
 |_=>none
@[go_sem] theorem d2u(st xt:TypeId)(s x:AV):a3d E h n st xt s x=a0a (apT E st xt) λe=>a0a (a1x h (E.sz e) x) λxs=>apS E h n e xs s:=by
 unfold a3d apT;cases E.und st with
 |none=>rfl
 |some d=>cases E.und xt with
  |none=>cases d<;>rfl
  |some dx=>
   cases d<;>try rfl
   rename_i e;simp only;cases(a2c dx || !(E.zero e).isSome || !(Nat.blt 0 (E.sz e)))with
   |true=>rfl
   |false=>
    simp only[cond_false,a0a];cases a1x h (E.sz e) x with
    |none=>rfl
    |some xs=>cases s<;>rfl
@[go_sem] theorem d6i(e:TypeId)(y:List AV)(ys:List (List AV)):apS E h n e (y::ys) .nilslice=bif a28 E e (y::ys).length then some (.slice n 0 (y::ys).length none,.new (.row (E.sz e) (y::ys)))else none:=by rfl
@[go_sem] theorem d4b(e:TypeId)(xs:List (List AV))(b o l:Nat):apS E h n e xs (.slice b o l none)=a0a (b04 (h b)) λkr=>
 bif decide (kr.1=E.sz e)then(bif decide (o+l=kr.2.length)then(bif a28 E e (l+xs.length)&&xs.all (λr=>r.all AV.storable)then some (.slice n 0 (l+xs.length) none,.kill b (.row (E.sz e) (kr.2.drop o++xs)))else none)
  else(bif decide (o+l≤kr.2.length)&&a28 E e (l+xs.length)&&xs.all (λr=>r.all AV.storable)then some (.slice n 0 (l+xs.length) none,.kill b (.row (E.sz e) ((kr.2.drop o).take l++xs)))else none))else none:=by
 simp only[apS];cases hb:h b with
 |none=>simp only[hb];rfl
 |some ob=>
  cases ob<;>simp only[hb,b04,a0a,c17,c3z];rename_i kk rows;have e1:Nat.beq (o+l) rows.length=decide (o+l=rows.length):=by rw[c3w,c17]
  rw[e1];by_cases h1:o+l=rows.length
  ·rw[decide_eq_true h1,decide_eq_true (by omega:o+l≤rows.length)];cases decide (kk=E.sz e)<;>rfl
  ·rw[decide_eq_false h1];cases decide (kk=E.sz e)<;>cases decide (o+l≤rows.length)<;>rfl
@[go_sem] theorem d2o(e:TypeId)(xs:List (List AV))(b o l c:Nat):apS E h n e xs (.slice b o l (some c))=a0a (b04 (h b)) λkr=>
 bif decide (kr.1=E.sz e)&&decide (o+l≤kr.2.length)then(bif decide (l+xs.length≤c)then
  (bif decide (o+l+xs.length≤kr.2.length)&&xs.all (λr=>r.all AV.storable)then some (.slice b o (l+xs.length) (some c),.set b (.row (E.sz e) (kr.2.take (o+l)++xs++kr.2.drop (o+l+xs.length))))else none)
  else(bif a28 E e (l+xs.length)then some (.slice n 0 (l+xs.length) none,.new (.row (E.sz e) ((kr.2.drop o).take l++xs)))else none))else none:=by
 simp only[apS];cases hb:h b with
 |none=>simp only[hb];rfl
 |some ob=>cases ob<;>simp only[hb,b04,a0a,c17,c3z]
theorem b06{e:TypeId}{k:Nat}(hk:k≤1000000000)(hb:E.bytes e≤1000):a28 E e k=true:=by
 unfold a28;rw[decide_eq_true (by omega),Bool.true_and,decide_eq_true_eq]
 calc E.bytes e*(2*k+192)≤1000*(2*1000000000+192):=Nat.mul_le_mul hb (by omega)
  _≤281474976710656:=by decide
end
/- The length of a block's rows, by hand. -/
@[go_sem] theorem d31(a b:Nat):(a:Int).tmod (b:Int)=((a%b:Nat):Int):=by rfl
@[go_sem] theorem d6o(a:Nat):(a:Int).tmod 2=((a%2:Nat):Int):=by rfl
@[go_sem] theorem d6n(a:Nat):(a:Int).tmod 3=((a%3:Nat):Int):=by rfl
@[go_sem] theorem d6m(a:Nat):(a:Int).tmod 4=((a%4:Nat):Int):=by rfl
@[go_sem] theorem d6l(a:Nat):(a:Int).tmod 9=((a%9:Nat):Int):=by rfl
@[go_sem] theorem d4w(a:Nat):(a:Int).tmod 10=((a%10:Nat):Int):=by rfl
@[go_sem] theorem d4x(a:Nat):(a:Int).tdiv 10=((a/10:Nat):Int):=by rfl
@[go_sem] theorem d4v(a:Nat):(a:Int).tmod 13=((a%13:Nat):Int):=by rfl
theorem wI{n:Nat}(h:n<9223372036854775808):IntKind.i64.wrap (n:Int)=n:=w64 (by omega) (by omega)
theorem wB{n:Nat}(h:n<256):IntKind.u8.wrap (n:Int)=n:=IntWalk.u8_in _ ⟨by omega,by omega⟩
theorem wI1{n:Nat}(h:n<9223372036854775807):IntKind.i64.wrap ((n:Int)+1)=((n+1:Nat):Int):=by rw[w64 (by omega) (by omega)];rfl
theorem b29(m b:Nat):a0y m b=bif decide (b<m)then some b else none:=by simp only[a0y,c16]
attribute [go_sem] b29
/-! ### bytes to a string -/
def byT(E:Env)(s d:TypeId):Bool:=match E.und s,E.und d with
 |some (.slice e),some .string=>match E.und e with|some (.int .u8)=>true|_=>false
 |_,_=>false
section
variable {E:Env}{h:FHeap}{s d:TypeId}
theorem c0h{x:AV}(hb:byT E s d=true)(hx:∀t,x≠ .str t):a5c E h s d x=a0a (a1x h 1 x) λrows=>a0a (a4s rows) λl=>some (.str l):=by
 unfold byT at hb;cases hs:E.und s with
 |none=>rw[hs]at hb;cases hb
 |some ds=>
  cases hd:E.und d with
  |none=>rw[hs,hd]at hb;cases ds<;>cases hb
  |some dd=>
   rw[hs,hd]at hb;cases ds<;>first|(cases hb;done)|skip
   rename_i e;cases dd<;>first|(cases hb;done)|skip
   simp only at hb;cases he:E.und e with
   |none=>rw[he]at hb;cases hb
   |some de=>
    rw[he]at hb;cases de<;>first|(cases hb;done)|skip
    rename_i k;cases k<;>first|(cases hb;done)|skip
    unfold a5c;simp only[hs,hd,he];cases x<;>first|(exact absurd rfl (hx _))|skip
    all_goals
     simp only[a0a];cases a1x h 1 _ with
     |none=>rfl
     |some rows=>simp only;cases a4s rows<;>rfl
@[go_sem] theorem c8o{b o l:Nat}{c:Option Nat}(hb:byT E s d=true):a5c E h s d (.slice b o l c)=a0a (a1x h 1 (.slice b o l c)) λrows=>a0a (a4s rows) λl=>some (.str l):=c0h hb (λ_ h=>by cases h)
@[go_sem] theorem d0i:a4s []=some []:=by rfl
@[go_sem] theorem c9c(n:Int)(r:List (List AV)):a4s ([.int .u8 n]::r)=a0a (a4s r) λl=>some (UInt8.ofNat n.toNat::l):=by simp only[a4s];cases a4s r<;>rfl
end
@[go_sem] theorem d41{r:List AV}{n:Nat}(h:a0c r=[]):(List.replicate n r).flatMap a0c=[]:=a1t (FlatR.replicate h)
attribute [go_sem] List.length_replicate List.map_replicate List.length_append List.flatMap_append List.map_append
/-! ### calls that only read -/
def FlatO(o:Option AObj):Prop:=∀π,o.map (a0h π)=o
theorem FlatO.row{k:Nat}{rows:List (List AV)}(h:FlatR rows):FlatO (some (.row k rows)):=λπ=>by simp only[Option.map_some,a0h,a1c π h]
theorem c3u(f:Nat→Option AObj)(σ:List Nat)(j:Nat):a02 (σ.map f) j=(σ[j]?).bind f:=by simp only[a02,List.getElem?_map];cases σ[j]?<;>simp
theorem a92{σ:List Nat}{n:Nat}{H:a03}(hf:∀b∈σ,FlatO (a02 H b)):∀(b:Nat) (H2:a03),(∀i,H2[i]?=H[b+i]?)→a17 σ n (σ.map (a02 H)) b H2=H2
 |_,[],_=>rfl
 |b,o::r,hh=>by
  have ih:=a92 hf (n:=n) (b+1) r (λi=>by
   have:=hh (i+1);rw[List.getElem?_cons_succ]at this;rw[this]
   congr 1
   omega)
  simp only[a17,ih]
  congr 1
  cases hx:σ.idxOf? b with
  |none=>rfl
  |some j=>simp only;have hj:=a1m hx;have hm:b∈σ:=List.mem_of_getElem? hj;rw[c3u,hj];simp only[Option.bind_some];rw[hf b hm _];have h0:=hh 0;simp only[List.getElem?_cons_zero,Nat.add_zero]at h0;simp[a02,←h0]
theorem c0l{E:Env}{draw:Bool}{call:CallF}{g:FuncId}{fs cs ar args:List AV}{H:a03}{v:AV}(σ:List Nat)(hx:E.ext g=false)(hf:(E.fn g).isSome=true)(he:fs++ar++cs=args)
 (hσ:a2i H 1000000 (a0c args) []=σ)(hn:a41 σ=true)(hl:(σ.all λb=>decide (b<H.length))=true)(hfl:∀b∈σ,FlatO (a02 H b))
 {args':List AV}(ha:args.map (ren (a93 σ))=args'){H0:a03}(hH:σ.map (a02 H)=H0)(hr:call g args' H0=some (v,H0))(hv:refs v=[]) :
 a0o E draw call (.func (.func g) fs cs) ar H=some (v,H,σ):=by
 have hs:a4d H σ (a93 σ)=H0:=by rw[←hH];unfold a4d;exact List.map_congr_left λb hb=>hfl b hb _
 have hc:=a59 (call g) args H hσ hn hl ha hs hr;have e1:ren (a1f σ H.length) v=v:=a44 _ v hv;have e2:a17 σ H.length H0 0 H=H:=by rw[←hH];exact a92 hfl 0 H (λi=>by rw[Nat.zero_add])
 have e3:H0.drop σ.length=[]:=by rw[←hH];simp
 rw[e1,e2,e3,List.map_nil,List.append_nil]at hc;exact a7v hx hf he hc rfl
end Go.Ax
/- AxMore: facts that all say 'true'; loops over any states; what a heap's values a2i. -/
namespace Go.Ax
/-! ### what is reached -/
theorem b4p{f:Nat→Nat}:∀{L:List Nat} {b:Nat},b∈L→(L.map f).sum=f b+((L.erase b).map f).sum
 | [],b,h=>by simp at h
 |a::L,b,h=>by
  by_cases hab:a=b
  ·subst hab;simp
  ·have hb:b∈L:=by simpa[Ne.symm hab]using h
   rw[List.erase_cons_tail (by simpa using hab)];simp only[List.map_cons,List.sum_cons,b4p hb];omega
structure Reached(H:a03)(init σ:List Nat):Prop where
 nodup:σ.Nodup
 start:∀b∈init,b∈σ
 closed:∀b∈σ,∀c∈a16 (a02 H b),c∈σ
 least:∀T:Nat→Prop,(∀b∈init,T b)→(∀b,T b→∀c∈a16 (a02 H b),T c)→∀b∈σ,T b
theorem b3k(H:a03):∀(n:Nat) (todo acc L:List Nat),acc.Nodup→(∀b∈acc,∀c∈a16 (a02 H b),c∈acc∨c∈todo)→(∀b∈todo,b∈acc∨b∈L)→(∀b∈L,∀c∈a16 (a02 H b),c∈acc∨c∈L)→
 todo.length+(L.map λb=>(a16 (a02 H b)).length).sum<n→
 (a2i H n todo acc).Nodup∧(∀b∈acc,b∈a2i H n todo acc)∧(∀b∈todo,b∈a2i H n todo acc)∧(∀b∈a2i H n todo acc,∀c∈a16 (a02 H b),c∈a2i H n todo acc)∧
 ∀T:Nat→Prop,(∀b∈acc,T b)→(∀b∈todo,T b)→(∀b,T b→∀c∈a16 (a02 H b),T c)→∀b∈a2i H n todo acc,T b
 |0,todo,acc,L,_,_,_,_,hn=>by omega
 |n+1,[],acc,L,h1,h2,h3,h4,hn=>by
  unfold a2i;refine⟨List.pairwise_reverse.2 (h1.imp λh=>Ne.symm h),by simp,by simp,?_,?_⟩
  ·intro b hb c hc;rcases h2 b (by simpa using hb) c hc with h|h
   ·simpa using h
   ·simp at h
  ·intro T t1 t2 t3 b hb;exact t1 b (by simpa using hb)
 |n+1,b::todo,acc,L,h1,h2,h3,h4,hn=>by
  unfold a2i;cases hc:a11 acc b with
  |true=>
   have hb:b∈acc:=a3a.1 hc;simp only[cond_true];obtain⟨r1,r2,r3,r4,r5⟩:=b3k H n todo acc L h1 (λx hx c hcc=>by
    rcases h2 x hx c hcc with h|h
    ·exact .inl h
    ·simp only[List.mem_cons]at h;rcases h with rfl|h
     ·exact .inl hb
     ·exact .inr h) (λx hx=>h3 x (by simp[hx])) h4 (by simp only[List.length_cons]at hn;omega)
   refine⟨r1,r2,?_,r4,?_⟩
   ·intro x hx;simp only[List.mem_cons]at hx;rcases hx with rfl|hx
    ·exact r2 _ hb
    ·exact r3 x hx
   ·intro T t1 t2 t3;exact r5 T t1 (λx hx=>t2 x (by simp[hx])) t3
  |false=>
   have hb:b∉acc:=λh=>by rw[a3a.2 h]at hc;cases hc
   simp only[cond_false];have hbL:b∈L:=(h3 b (by simp)).resolve_left hb;have hs:=b4p (f:=λb=>(a16 (a02 H b)).length) hbL;obtain⟨r1,r2,r3,r4,r5⟩:=b3k H n (a16 (a02 H b)++todo) (b::acc) (L.erase b) (List.nodup_cons.2 ⟨hb,h1⟩) (λx hx c hcc=>by
    simp only[List.mem_cons]at hx⊢;rcases hx with rfl|hx
    ·exact .inr (by simp[hcc])
    ·rcases h2 x hx c hcc with h|h
     ·exact .inl (.inr h)
     ·simp only[List.mem_cons]at h;rcases h with rfl|h
      ·exact .inl (.inl rfl)
      ·exact .inr (by simp[h])) (λx hx=>by
    have hx':x∈acc∨x∈L:=by
     rw[List.mem_append]at hx;rcases hx with hx|hx
     ·exact h4 b hbL x hx
     ·exact h3 x (by simp[hx])
    by_cases hxb:x=b
    ·exact .inl (by simp[hxb])
    ·rcases hx' with h|h
     ·exact .inl (by simp[h])
     ·exact .inr ((List.mem_erase_of_ne hxb).2 h)) (λx hx c hcc=>by
    have:=h4 x (List.mem_of_mem_erase hx) c hcc;by_cases hxb:c=b
    ·exact .inl (by simp[hxb])
    ·rcases this with h|h
     ·exact .inl (by simp[h])
     ·exact .inr ((List.mem_erase_of_ne hxb).2 h)) (by
    simp only[List.length_cons]at hn;rw[hs]at hn;simp only[List.length_append];omega)
   refine⟨r1,λx hx=>r2 x (by simp[hx]),?_,r4,?_⟩
   ·intro x hx;simp only[List.mem_cons]at hx;rcases hx with rfl|hx
    ·exact r2 _ (by simp)
    ·exact r3 x (by simp[hx])
   ·intro T t1 t2 t3;refine r5 T ?_ ?_ t3
    ·intro x hx;simp only[List.mem_cons]at hx;rcases hx with rfl|hx
     ·exact t2 _ (by simp)
     ·exact t1 x hx
    ·intro x hx;rw[List.mem_append]at hx;rcases hx with hx|hx
     ·exact t3 b (t2 b (by simp)) x hx
     ·exact t2 x (by simp[hx])
theorem b9r{H:a03}{init:List Nat}(S:List Nat)(h1:∀b∈init,b∈S)(h2:∀b∈S,∀c∈a16 (a02 H b),c∈S)
 (hn:init.length+(S.map λb=>(a16 (a02 H b)).length).sum<1000000):Reached H init (a2i H 1000000 init []):=by
 obtain⟨r1,_,r3,r4,r5⟩:=b3k H 1000000 init [] S List.nodup_nil (λb hb=>by simp at hb) (λb hb=>.inr (h1 b hb)) (λb hb c hc=>.inr (h2 b hb c hc)) hn;exact⟨r1,r3,r4,λT t1 t2=>r5 T (λb hb=>by simp at hb) t1 t2⟩
theorem b51:∀{l:List Nat},l.Nodup→a41 l=true
 | [],_=>rfl
 |a::l,h=>by
  rw[List.nodup_cons]at h;have hc:a11 l a=false:=by
   cases hc:a11 l a with
   |false=>rfl
   |true=>exact absurd (a3a.1 hc) h.1
  rw[b6s,hc,b51 h.2];rfl
structure Gc(m:Nat)(F:Frm)(H:a03)(R:Nat→Prop)(π:Nat→Option Nat)(H1:a03):Prop where
 low:∀b,b<m→π b=some b
 inj:∀a b c,π a=some c→π b=some c→a=b
 refs:∀b∈a0c (F.map (·.2)),R b
 lows:∀b,b<m→∀c∈a16 (a02 H b),R c
 closed:∀b,R b→∀c∈a16 (a02 H b),R c
 least:∀T:Nat→Prop,(∀b∈a0c (F.map (·.2)),T b)→(∀b,b<m→∀c∈a16 (a02 H b),T c)→(∀b,T b→∀c∈a16 (a02 H b),T c)→∀b,R b→T b
 here:∀b,R b→∃c,π b=some c
 heap:∀b c,π b=some c→a02 H1 c=(a02 H b).map (a0h π)
 len:∀T:List Nat,(∀b,R b→m≤b→b∈T)→H1.length≤m+T.length
theorem b3p{m:Nat}{H:a03}{c:Nat}:c∈(H.take m).flatMap a16↔∃b,b<m∧c∈a16 (a02 H b):=by
 simp only[List.mem_flatMap];constructor
 ·rintro⟨o,ho,hc⟩
  obtain⟨b,hb⟩:=List.mem_iff_getElem?.1 ho;rw[List.getElem?_take]at hb;split at hb
  case isFalse=>cases hb
  rename_i hlt;refine⟨b,hlt,?_⟩;simp only[a02,hb,Option.join_some];exact hc
 ·rintro⟨b,hlt,hc⟩
  cases hb:H[b]? with
  |none=>simp[a02,hb,a16]at hc
  |some o=>refine⟨o,List.mem_iff_getElem?.2 ⟨b,by rw[List.getElem?_take,if_pos hlt,hb]⟩,?_⟩;simpa[a02,hb]using hc
theorem b0l:∀{l T:List Nat},l.Nodup→(∀b∈l,b∈T)→l.length≤T.length
 | [],_,_,_=>by simp
 |a::l,T,hnd,hsub=>by rw[List.nodup_cons]at hnd;have ha:a∈T:=hsub a (by simp);have:=b0l (l:=l) (T:=T.erase a) hnd.2 (λb hb=>(List.mem_erase_of_ne (λe=>hnd.1 (by rw[←e];exact hb))).2 (hsub b (by simp[hb])));rw[List.length_erase_of_mem ha]at this;have:0<T.length:=List.length_pos_of_mem ha;simp only[List.length_cons];omega
theorem d22{m:Nat}{keep:List Nat}{F:Frm}{H:a03}(hm:m≤H.length)(S:List Nat)(h1:∀b∈a0c ((a2b keep F).map (·.2)),b∈S)(h2:∀b,b<m→∀c∈a16 (a02 H b),c∈S)(h3:∀b∈S,∀c∈a16 (a02 H b),c∈S)
 (hn:((H.take m).flatMap a16).length+(a0c ((a2b keep F).map (·.2))).length+(S.map λb=>(a16 (a02 H b)).length).sum<1000000) :
 ∃(R:Nat→Prop) (π:Nat→Option Nat) (H1:a03),gcD m keep F H=some (b7z π (a2b keep F),H1)∧Gc m (a2b keep F) H R π H1∧m≤H1.length:=by
 have hr:=b9r (H:=H) (init:=(H.take m).flatMap a16++a0c ((a2b keep F).map (·.2))) S (λb hb=>by
  rw[List.mem_append]at hb;rcases hb with hb|hb
  ·obtain⟨a,ha,hc⟩:=b3p.1 hb;exact h2 a ha b hc
  ·exact h1 b hb) h3 (by rw[List.length_append];exact hn)
 generalize hρ:a2i H 1000000 ((H.take m).flatMap a16++a0c ((a2b keep F).map (·.2))) []=ρ at hr;have hσ:a8j m (a2b keep F) H=ρ.filter λb=>decide (m≤b):=by rw[a00,hρ]
 have hnd:(ρ.filter λb=>decide (m≤b)).Nodup:=hr.nodup.filter _;have hmem:∀b,b∈(ρ.filter λb=>decide (m≤b))↔b∈ρ∧m≤b:=λb=>by rw[List.mem_filter];simp
 have hml:(H.take m).length=m:=by simp;omega
 have hlen:(gcH m (ρ.filter λb=>decide (m≤b)) H).length=m+(ρ.filter λb=>decide (m≤b)).length:=by rw[c6k];simp[a4d];omega
 refine⟨(·∈ρ),b3v m (ρ.filter λb=>decide (m≤b)),gcH m (ρ.filter λb=>decide (m≤b)) H,?_,?_,by rw[hlen];omega⟩
 ·rw[a01,hσ,b51 hnd,decide_eq_true hm];have:(ρ.filter λb=>decide (m≤b)).all (λb=>decide (m≤b))=true:=by
   rw[List.all_eq_true];intro b hb;simpa using((hmem b).1 hb).2
  rw[this];rfl
 ·have hπ:∀b,b3v m (ρ.filter λb=>decide (m≤b)) b=if b<m then some b else((ρ.filter λb=>decide (m≤b)).idxOf? b).map (m + ·):=by
   intro b;rw[c2k];by_cases h:b<m<;>simp[h]
  refine⟨λb hb=>by rw[hπ,if_pos hb],?_,λb hb=>hr.start b (by simp[hb]),λb hb c hc=>hr.start c (by rw[List.mem_append];exact .inl (b3p.2 ⟨b,hb,hc⟩)),λb hb c hc=>hr.closed b hb c hc,?_,?_,?_,?_⟩
  ·intro a b c ha hb;rw[hπ]at ha hb;split at ha<;>split at hb
   ·cases ha;cases hb;rfl
   ·cases ha;obtain⟨j,hj,e⟩:=a05 hb;omega
   ·cases hb;obtain⟨j,hj,e⟩:=a05 ha;omega
   ·obtain⟨i,hi,e1⟩:=a05 ha;obtain⟨j,hj,e2⟩:=a05 hb;have g1:=a1m hi;have g2:=a1m hj;obtain rfl:i=j:=by omega
    rw[g1]at g2;exact z9o g2
  ·intro T t1 t2 t3 b hb;refine hr.least T (λx hx=>?_) t3 b hb;rw[List.mem_append]at hx;rcases hx with hx|hx
   ·obtain⟨a,ha,hc⟩:=b3p.1 hx;exact t2 a ha x hc
   ·exact t1 x hx
  ·intro b hb;rw[hπ];split
   ·exact⟨_,rfl⟩
   ·rename_i h;have hbf:=(hmem b).2 ⟨hb,by omega⟩;obtain⟨j,hj⟩:=List.mem_iff_getElem?.1 hbf;rw[a69 hnd hj];exact⟨_,rfl⟩
  ·intro b c hbc;have hbc':=hbc;rw[hπ]at hbc';rw[c6k];split at hbc'
   ·rename_i h;cases hbc';simp only[a02];rw[List.getElem?_append_left (by simp;omega),List.getElem?_map,List.getElem?_take,if_pos h];cases H[b]? with
    |none=>rfl
    |some o=>rfl
   ·rename_i h;obtain⟨j,hj,rfl⟩:=a05 hbc';have hg:=a1m hj;simp only[a02];rw[List.getElem?_append_right (by simp only[List.length_map,hml];omega)];simp only[List.length_map,hml,Nat.add_sub_cancel_left,a4d,List.getElem?_map,hg,Option.map_some,Option.join_some];rfl
  ·intro T hT;rw[hlen];have:(ρ.filter λb=>decide (m≤b)).length≤T.length:=by
    have hsub:∀b∈(ρ.filter λb=>decide (m≤b)),b∈T:=λb hb=>hT b ((hmem b).1 hb).1 ((hmem b).1 hb).2;exact b0l hnd hsub
   omega
end Go.Ax
/- AxSup: closed runs over facts of calls, a4a a given fact. -/
namespace Go.Ax
def a0w(E:Env)(x:Fact):Prop:=sem E [] x.g x.args []=some (x.v,[])
theorem b7t{E:Env}{g:FuncId}{args:List AV}{v:AV}:∀{M:List Fact},(∀x∈M,a0w E x)→d11 M g args=some v→sem E [] g args []=some (v,[])
 | [],_,h=>by simp[d11]at h
 |x::r,hM,h=>by
  simp only[d11,cond_eq_ite]at h;split at h
  ·rename_i hc;simp only[Bool.and_eq_true,Nat.beq_eq]at hc;cases h;have:=hM x (by simp);obtain⟨g',a',v'⟩:=x;simp only at hc this;have h1:=hc.1;have h2:=b2w _ _ hc.2;subst h1;subst h2;exact this
  ·exact b7t (λx hx=>hM x (by simp[hx])) h
theorem b03{E:Env}{c:CallF}(hc:CallF.le c (sem E []))(lf:Nat):CallF.le (a9f E c lf) (sem E []):=λg args H r h=>c1i (λ_ h=>by cases h) lf (a88 hc (Nat.le_refl lf) h)
theorem b0i{E:Env}{M:List Fact}(hM:∀x∈M,a0w E x):∀n,CallF.le (c23 E M n) (sem E [])
 |0=>λg args H r h=>by simp[c23]at h
 |n+1=>λg args H r h=>by
  have h:d5n M (a9f E (c23 E M n) (n+1)) g args H=some r:=h;unfold d5n at h;split at h
  ·split at h
   ·rename_i v hs;cases h;exact b7t hM hs
   ·exact b03 (b0i hM n) _ _ _ _ _ h
  ·exact b03 (b0i hM n) _ _ _ _ _ h
theorem a0g{E:Env}{M:List Fact}(hM:∀x∈M,a0w E x)(n:Nat){g:Nat}{args:List AV}{v:AV}(h:a9f E (c23 E M n) n g args []=some (v,[])):a0w E ⟨g,args,v⟩:=b03 (b0i hM n) n _ _ _ _ h
theorem a0m{E:Env}:∀x∈([]:List Fact),a0w E x:=by simp
theorem a0i{E:Env}{x:Fact}{M:List Fact}(hx:a0w E x)(hM:∀x∈M,a0w E x):∀y∈x::M,a0w E y:=by
 intro y hy;simp only[List.mem_cons]at hy;rcases hy with rfl|hy
 ·exact hx
 ·exact hM y hy
end Go.Ax
/- AxGrow: grown slices; calls that read one block. -/
namespace Go.Ax
def grV(b:Nat):List (List AV)→AV|[]=>.nilslice|_::rs=>.slice b 0 (rs.length+1) none
def grH(k:Nat):List (List AV)→a03|[]=>[]|r::rs=>[some (.row k (r::rs))]
theorem a1z(b:Nat):grV b [] = .nilslice:=by rfl
theorem a20(k:Nat):grH k []=[]:=by rfl
theorem a0t(b:Nat)(r:List AV)(rs:List (List AV)):grV b (r::rs) = .slice b 0 (rs.length+1) none:=by rfl
theorem a0u(k:Nat)(r:List AV)(rs:List (List AV)):grH k (r::rs)=[some (.row k (r::rs))]:=by rfl
theorem b3u(b:Nat)(l:List (List AV))(x:List AV):grV b (l++[x]) = .slice b 0 (l.length+1) none:=by cases l<;>simp[grV]
theorem b8n(k:Nat)(l:List (List AV))(x:List AV):grH k (l++[x])=[some (.row k (l++[x]))]:=by cases l<;>simp[grH]
theorem a3u(b:Nat){l:List (List AV)}(h:l≠[]):grV b l = .slice b 0 l.length none:=by cases l with|nil=>exact absurd rfl h|cons a r=>rfl
theorem a3v(k:Nat){l:List (List AV)}(h:l≠[]):grH k l=[some (.row k l)]:=by cases l with|nil=>exact absurd rfl h|cons a r=>rfl
theorem b4y{H:a03}{b:Nat}(hr:a16 (a02 H b)=[]):a2i H 1000000 [b] []=[b]:=by
 have e1:∀n,a2i H (n+2) [b] []=[b]:=by intro n;unfold a2i;simp only[a11,cond_false,hr,List.append_nil];unfold a2i;rfl
 exact e1 999998
theorem a3b{E:Env}{draw:Bool}{call:CallF}{g:FuncId}{fs cs ar args:List AV}{H:a03}{v:AV}{b:Nat}{o:AObj}(hx:E.ext g=false)(hf:(E.fn g).isSome=true)(he:fs++ar++cs=args)
 (hb:a02 H b=some o)(ho:a16 (some o)=[])(hfl:FlatO (some o))(hargs:a0c args=[b]){args':List AV}(ha:args.map (ren (a93 [b]))=args')(hr:call g args' [some o]=some (v,[some o]))(hv:refs v=[]) :
 a0o E draw call (.func (.func g) fs cs) ar H=some (v,H,[b]):=by
 have hlt:b<H.length:=by
  unfold a02 at hb;cases hh:H[b]? with
  |none=>rw[hh]at hb;cases hb
  |some x=>exact(List.getElem?_eq_some_iff.1 hh).1
 refine c0l [b] hx hf he (by rw[hargs];exact b4y (by rw[hb];exact ho)) rfl (by simpa using hlt) ?_ ha (by simp only[List.map_cons,List.map_nil,hb]) hr hv;intro c hc;simp only[List.mem_singleton]at hc;subst hc;rw[hb];exact hfl
theorem a24{k:Nat}{rows:List (List AV)}(h:FlatR rows):a16 (some (.row k rows))=[]:=by simp only[a16];exact a1t h
theorem a1n{H:a03}{b:Nat}{o:AObj}(hb:a02 H b=some o):b<H.length:=by
 unfold a02 at hb;cases hh:H[b]? with
 |none=>rw[hh]at hb;cases hb
 |some x=>exact(List.getElem?_eq_some_iff.1 hh).1
theorem b3b{H:a03}{b:Nat}{o:AObj}(hb:a02 H b=some o):H.set b (some o)=H:=by have hlt:=a1n hb;unfold a02 at hb;rw[z9e hlt]at hb;simp only[Option.join_some]at hb;rw[←hb];exact List.set_getElem_self hlt
theorem b07(b n:Nat)(o:Option AObj)(ho:∀π,o.map (a0h π)=o):∀(s:Nat) (H:a03),s≤b→a17 [b] n [o] s H=H.set (b-s) o
 |s,[],_=>by simp[a17]
 |s,x::H,hs=>by
  simp only[a17];by_cases hsb:s=b
  ·subst hsb;have e:([s]:List Nat).idxOf? s=some 0:=by simp[List.idxOf?_cons]
   have hrest:∀(t:Nat) (H:a03),s<t→a17 [s] n [o] t H=H:=by
    intro t H
    induction H generalizing t with
    |nil=>intro _;rfl
    |cons y H ih=>
     intro ht;have e2:([s]:List Nat).idxOf? t=none:=by simp[List.idxOf?_cons];omega
     simp only[a17,e2,ih (t+1) (by omega)]
   simp only[e,hrest (s+1) H (by omega),Nat.sub_self,List.set_cons_zero]
   congr 1
   exact ho _
  ·have e:([b]:List Nat).idxOf? s=none:=by simp[List.idxOf?_cons];omega
   have e2:b-s=(b-(s+1))+1:=by omega
   rw[e2,List.set_cons_succ];simp only[e,b07 b n o ho (s+1) H (by omega)]
theorem a8r{E:Env}{draw:Bool}{call:CallF}{g:FuncId}{fs cs ar args:List AV}{H:a03}{v v':AV}{b:Nat}{o o':AObj}(hx:E.ext g=false)(hf:(E.fn g).isSome=true)(he:fs++ar++cs=args)
 (hb:a02 H b=some o)(ho:a16 (some o)=[])(hfl:FlatO (some o))(hargs:a0c args=[b]){args':List AV}(ha:args.map (ren (a93 [b]))=args')(hr:call g args' [some o]=some (v,[some o']))(hfl':FlatO (some o'))(hv:ren (a1f [b] H.length) v=v') :
 a0o E draw call (.func (.func g) fs cs) ar H=some (v',H.set b (some o'),[b]):=by
 have hlt:=a1n hb;have hc:=a59 (call g) args H (σ:=[b]) (by rw[hargs];exact b4y (by rw[hb];exact ho)) rfl (by simpa using hlt) ha (H0:=[some o]) (by simp only[a4d,List.map_cons,List.map_nil,hb];congr 1;exact hfl _) hr;rw[hv,b07 b _ _ hfl' 0 H (Nat.zero_le _)]at hc;simp only[Nat.sub_zero,List.drop_succ_cons,List.drop_zero,List.map_nil,List.append_nil,List.length_cons,List.length_nil]at hc;exact a7v hx hf he hc (by simp)
theorem a6n(b o l:Nat)(c:Option Nat):ren (a93 [b]) (.slice b o l c) = .slice 0 o l c:=by simp[ren,a93]
theorem a7d(b o n l:Nat)(c:Option Nat):ren (a1f [b] n) (.slice 0 o l c) = .slice b o l c:=by rfl
/-! ### slices of slices -/
def inB(i:Int)(n:Nat):Bool:=decide (0≤i)&&decide (i≤(n:Int))
@[go_sem] theorem d5p(a n:Nat):inB (a:Int) n=decide (a≤n):=by unfold inB;rw[decide_eq_true (by omega),Bool.true_and,Bool.eq_iff_iff,decide_eq_true_eq,decide_eq_true_eq];omega
@[go_sem] theorem d96(n:Nat):inB 0 n=true:=by simp[inB]
theorem b9d{k:IntKind}{i:Int}{n d:Nat}:a0s (some (.int k i)) n d=bif inB i n then some i.toNat else none:=by rfl
attribute [go_sem] Option.map_some Option.map_none
section
variable {E:Env}{h:FHeap}{t:TypeId}
theorem b96{x:AV}{lo hi mx:Option AV}(hs:slT E t=none)(hx:∀s,x≠ .str s):a5a E h t x lo hi mx=none:=by
 unfold a5a;unfold slT at hs;cases hu:E.und t with
 |none=>rfl
 |some d=>rw[hu]at hs;cases d<;>first|(cases hs;done)|(cases x<;>first|rfl|exact absurd rfl (hx _))
@[go_sem] theorem c8u{k k':IntKind}{i j:Int}:a5a E h t .nilslice none (some (.int k i)) (some (.int k' j))=a0a (slT E t) λe=>bif isT E e&&inB j 0&&inB i j.toNat then some .nilslice else none:=by
 cases hs:slT E t with
 |none=>exact b96 hs (λ_ h=>by cases h)
 |some e=>simp only[a5a,a3f.1 hs,a0a,b9d,isT];cases(E.und e).isSome<;>cases inB j 0<;>first|rfl|(simp only[cond_true,Bool.true_and];cases inB i j.toNat<;>rfl)
@[go_sem] theorem d0d{b o n:Nat}{c:Option Nat}{k k':IntKind}{i j:Int}:a5a E h t (.slice b o n c) none (some (.int k i)) (some (.int k' j))=a0a (slT E t) λe=>a0a (b04 (h b)) λkr=>bif isT E e&&decide (kr.1=E.sz e)&&inB j (a1w n c)&&inB i j.toNat then some (.slice b o i.toNat (some j.toNat))else none:=by
 cases hs:slT E t with
 |none=>exact b96 hs (λ_ h=>by cases h)
 |some e=>
  simp only[a5a,a3f.1 hs,a0a,b9d,isT];cases hb:h b with
  |none=>cases(E.und e).isSome<;>rfl
  |some ob=>cases ob with
   |map=>cases(E.und e).isSome<;>rfl
   |siter=>cases(E.und e).isSome<;>rfl
   |uset=>cases(E.und e).isSome<;>rfl
   |miter=>cases(E.und e).isSome<;>rfl
   |yloop=>cases(E.und e).isSome<;>rfl
   |row kk rows=>simp only[b04,c17];cases(E.und e).isSome<;>cases decide (kk=E.sz e)<;>cases inB j (a1w n c)<;>first|rfl|(simp only[cond_true,Bool.true_and];cases inB i j.toNat<;>rfl)
end
attribute [go_sem] Nat.le_refl Int.toNat_natCast
@[go_sem] theorem c64{α β:Type}(f:α→β)(l:List α):(l.map f).take l.length=l.map f:=by rw[←List.length_map (f:=f),List.take_length]
attribute [go_sem] List.take_length
@[go_sem] theorem c32(n:Nat):a1w n none=n:=by rfl
end Go.Ax
/- AxMelt: calls over flat arguments that return a pointer to a block of their own. -/
namespace Go.Ax
end Go.Ax
/- AxCpy: copy and clear, ar rewrite rules. -/
namespace Go.Ax
section
variable {E:Env}{draw:Bool}{call:CallF}{F:Frm}{H:a03}{h:FHeap}
end
section
variable {E:Env}{t:TypeId}{c:Bool}{x y:BitVec 64}
end
section
variable {E:Env}{h:FHeap}{t:TypeId}
end
end Go.Ax
/- AxFz: a loop that freezes at its end, as rewrite rules. -/
namespace Go.Ax
end Go.Ax
/- AxMl: a loop over a set of numbers: as a condition on its end. -/
namespace Go.Ax
section
variable {E:Env}{M:List Fact}{m N:Nat}{g:FuncId}{cur:Nat}{keep:List Nat}{id:Nat}{ops:Array Oper}{it nx:Nat}{ors:List Oper}{rest:Code}
end
end Go.Ax
/- AxSetS: sets of numbers, as rewrite rules. -/
namespace Go.Ax
section
variable {E:Env}{h:FHeap}{t:TypeId}{draw:Bool}{call:CallF}{F:Frm}{H:a03}
@[go_sem] theorem d1s:b0g E t=bif b38 E t then .uset []else .map [] [] [] 0:=by rfl
/-! lookup -/
/-! update -/
/-! delete -/
/-! length -/
/-! ranging -/
/-! frames and heaps -/
variable (π:Nat→Option Nat)
end
end Go.Ax
/- AxTwo: slices of slices that grow: one block of rows, a block for each that is not empty. -/
namespace Go.Ax
theorem a6t{H L:a03}{c:Nat}(h:(c<H.length)=True):a02 (H++L) c=a02 H c:=by unfold a02;rw[List.getElem?_append_left (of_eq_true h)]
theorem a4p{H L:a03}(i:Nat):a02 (H++L) (H.length+i)=a02 L i:=by unfold a02;rw[List.getElem?_append_right (by omega)];congr 1;rw[Nat.add_sub_cancel_left]
theorem a55{H L:a03}:a02 (H++L) H.length=a02 L 0:=a4p 0
theorem b0s{H:a03}{a c:Nat}{o:Option AObj}:a02 (H.set a o) c=if a=c∧a<H.length then o else a02 H c:=by
 unfold a02;rw[List.getElem?_set];by_cases h:a=c
 ·subst h;by_cases hl:a<H.length
  ·simp[hl]
  ·simp[hl]
 ·simp[h]
theorem a4o{H:a03}{a c:Nat}{o:Option AObj}(h:a≠c):a02 (H.set a o) c=a02 H c:=by rw[b0s,if_neg (λe=>h e.1)]
theorem b2l{H:a03}{a c:Nat}{o:Option AObj}(h:(a=c)=False):a02 (H.set a o) c=a02 H c:=a4o (λe=>h▸e)
theorem a95{H:a03}{a:Nat}{o:Option AObj}(h:a<H.length):a02 (H.set a o) a=o:=by rw[b0s,if_pos ⟨rfl,h⟩]
def slV(b:Nat)(c:Option Nat):List (List AV)→AV|[]=>.nilslice|_::rs=>.slice b 0 (rs.length+1) c
theorem c49(b:Nat)(f:List (List AV)):slV b none f=grV b f:=by cases f<;>rfl
theorem a9z{H L:a03}{o:Option AObj}(i:Nat):(H++L).set (H.length+i) o=H++L.set i o:=by rw[List.set_append_right _ _ (by omega),Nat.add_sub_cancel_left]
theorem a84{H L:a03}{o:Option AObj}:(H++L).set H.length o=H++L.set 0 o:=a9z 0
theorem b7r{H L:a03}{o:Option AObj}{a:Nat}(h:(a<H.length)=True):(H++L).set a o=H.set a o++L:=List.set_append_left _ _ (of_eq_true h)
theorem a8f(n:Nat):(n<n+1)=True:=by simp
theorem a9m{a n k:Nat}(h:(a<n)=True):(a<n+k)=True:=by have:=of_eq_true h;simp;omega
def a3r(ids:Nat→Nat)(cp:Nat→Option Nat)(fo:List (List (List AV))):List (List AV):=fo.mapIdx λj f=>[slV (ids j) (cp j) f]
structure Two(H:a03)(b k:Nat)(ids:Nat→Nat)(cp:Nat→Option Nat)(fo:List (List (List AV))):Prop where
 top:a02 H b=some (.row 1 (a3r ids cp fo))
 sub:∀(j:Nat) (f:List (List AV)),fo[j]?=some f→f≠[]→a02 H (ids j)=some (.row k f)∧ids j≠b
 inj:∀(i j:Nat) (f g:List (List AV)),fo[i]?=some f→fo[j]?=some g→f≠[]→g≠[]→ids i=ids j→i=j
 flat:∀f∈fo,FlatR f
theorem a65{ids:Nat→Nat}{cp:Nat→Option Nat}{fo:List (List (List AV))}{j:Nat}{f:List (List AV)}(h:fo[j]?=some f):(a3r ids cp fo)[j]?=some [slV (ids j) (cp j) f]:=by unfold a3r;rw[List.getElem?_mapIdx,h];rfl
theorem a3q(ids:Nat→Nat)(cp:Nat→Option Nat)(fo:List (List (List AV))):(a3r ids cp fo).length=fo.length:=by unfold a3r;simp
theorem b39(b:Nat)(c:Option Nat){f:List (List AV)}:refs (slV b c f)=if f=[]then[]else[b]:=by cases f<;>rfl
theorem b25{ids:Nat→Nat}{cp:Nat→Option Nat}{fo:List (List (List AV))}{c:Nat}:c∈(a3r ids cp fo).flatMap a0c↔∃j f,fo[j]?=some f∧f≠[]∧c=ids j:=by
 unfold a3r;simp only[List.mem_flatMap];constructor
 ·rintro⟨r,hr,hc⟩
  obtain⟨j,hj⟩:=List.mem_iff_getElem?.1 hr;rw[List.getElem?_mapIdx]at hj;cases hf:fo[j]? with
  |none=>rw[hf]at hj;cases hj
  |some f=>
   rw[hf]at hj;cases hj;simp only[a0c,b39,List.append_nil]at hc;split at hc
   ·simp at hc
   ·rename_i hne;exact⟨j,f,hf,hne,by simpa using hc⟩
 ·rintro⟨j,f,hf,hne,rfl⟩
  refine⟨[slV (ids j) (cp j) f],List.mem_iff_getElem?.2 ⟨j,by rw[List.getElem?_mapIdx,hf];rfl⟩,?_⟩;simp[a0c,b39,hne]
theorem c7d{π:Nat→Option Nat}{b c:Nat}{q:Option Nat}{f:List (List AV)}(h:f≠[]→π b=some c):ren π (slV b q f)=slV c q f:=by
 cases f with
 |nil=>rfl
 |cons a r=>simp only[slV,ren,h (by simp)]
section
variable {m:Nat}{F:Frm}{H H1:a03}{R:Nat→Prop}{π:Nat→Option Nat}{b k:Nat}{ids:Nat→Nat}{cp:Nat→Option Nat}{fo:List (List (List AV))}
theorem Two.ren(hg:Gc m F H R π H1)(h:Two H b k ids cp fo)(hb:R b):∃b' ids',π b=some b'∧Two H1 b' k ids' cp fo:=by
 obtain⟨b',hb'⟩:=hg.here b hb;have hsub:∀(j:Nat) (f:List (List AV)),fo[j]?=some f→f≠[]→π (ids j)=some ((π (ids j)).getD 0):=by intro j f hf hne;have:R (ids j):=hg.closed b hb _ (by rw[h.top];exact b25.2 ⟨j,f,hf,hne,rfl⟩);obtain⟨c,hc⟩:=hg.here _ this;rw[hc];rfl
 refine⟨b',λj=>(π (ids j)).getD 0,hb',?_,?_,?_,h.flat⟩
 ·rw[hg.heap b b' hb',h.top];simp only[Option.map_some,a0h]
  congr 2
  unfold a3r;apply List.ext_getElem?;intro j;simp only[List.getElem?_map,List.getElem?_mapIdx];cases hf:fo[j]? with
  |none=>rfl
  |some f=>simp only[Option.map_some,List.map_cons,List.map_nil,c7d (hsub j f hf)]
 ·intro j f hf hne;have e:=hsub j f hf hne;obtain⟨h1,h2⟩:=h.sub j f hf hne;refine⟨?_,?_⟩
  ·rw[hg.heap _ _ e,h1];simp only[Option.map_some,a0h,a1c π (h.flat f (List.mem_of_getElem? hf))]
  ·intro he;rw[he]at e;exact h2 (hg.inj _ _ _ e hb')
 ·intro i j f g hf hg' hne hne' e;have e1:=hsub i f hf hne;have e2:=hsub j g hg' hne';rw[e]at e1;exact h.inj i j f g hf hg' hne hne' (hg.inj _ _ _ e1 e2)
theorem Two.app(h:Two H b k ids cp fo){j n:Nat}{f:List (List AV)}{x:List AV}(hf:fo[j]?=some f)(hc:cp j=none)(hx:a0c x=[])(hn:H.length≤n)
 (h1:a02 H1 b=some (.row 1 ((a3r ids cp fo).set j [.slice n 0 (f.length+1) none])))(h2:a02 H1 n=some (.row k (f++[x])))
 (h3:∀(i:Nat) (g:List (List AV)),i≠j→fo[i]?=some g→g≠[]→a02 H1 (ids i)=a02 H (ids i)) :
 Two H1 b k (λi=>if i=j then n else ids i) cp (fo.set j (f++[x])):=by
 have hjl:j<fo.length:=(List.getElem?_eq_some_iff.1 hf).1;have hlt:∀(i:Nat) (g:List (List AV)),fo[i]?=some g→g≠[]→ids i<H.length:=λi g hg hne=>a1n (h.sub i g hg hne).1;have hbl:b<H.length:=a1n h.top;refine⟨?_,?_,?_,?_⟩
 ·rw[h1]
  congr 2
  apply List.ext_getElem?;intro i;unfold a3r;rw[List.getElem?_set,List.length_mapIdx];by_cases hij:j=i
  ·subst hij;simp only[if_true,hjl];rw[List.getElem?_mapIdx,List.getElem?_set];simp only[if_true,hjl,Option.map_some,hc,c49,b3u]
  ·simp only[if_neg hij];rw[List.getElem?_mapIdx,List.getElem?_mapIdx,List.getElem?_set,if_neg hij];simp only[if_neg (Ne.symm hij)]
 ·intro i g hg hne;rw[List.getElem?_set]at hg;by_cases hij:j=i
  ·subst hij;simp only[if_true,hjl,Option.some.injEq]at hg;subst hg;simp only[if_true];exact⟨h2,by omega⟩
  ·rw[if_neg hij]at hg;simp only[if_neg (Ne.symm hij)];rw[h3 i g (Ne.symm hij) hg hne];exact h.sub i g hg hne
 ·intro i i' g g' hg hg' hne hne' e;rw[List.getElem?_set]at hg hg';by_cases hij:j=i<;>by_cases hij':j=i'
  ·omega
  ·subst hij;simp only[if_neg hij']at hg';simp only[if_true,if_neg (Ne.symm hij')]at e;have:=hlt i' g' hg' hne';omega
  ·subst hij';simp only[if_neg hij]at hg;simp only[if_true,if_neg (Ne.symm hij)]at e;have:=hlt i g hg hne;omega
  ·simp only[if_neg hij]at hg;simp only[if_neg hij']at hg';simp only[if_neg (Ne.symm hij),if_neg (Ne.symm hij')]at e;exact h.inj i i' g g' hg hg' hne hne' e
 ·intro g hg;rcases List.mem_or_eq_of_mem_set hg with hg|rfl
  ·exact h.flat g hg
  ·exact(h.flat f (List.mem_of_getElem? hf)).append (FlatR.cons hx FlatR.nil)
theorem b7o{H:a03}:∀(l:List Nat),(∀c∈l,a16 (a02 H c)=[])→(l.map λc=>(a16 (a02 H c)).length).sum=0
 | [],_=>rfl
 |a::l,h=>by simp only[List.map_cons,List.sum_cons,h a (by simp),List.length_nil,b7o l (λc hc=>h c (by simp[hc]))]
theorem Two.gc{keep:List Nat}(h:Two H b k ids cp fo)(hF:a0c ((a2b keep F).map (·.2))=[b]∨a0c ((a2b keep F).map (·.2))=[b,b])(hn:fo.length<900000) :
 ∃π b' ids' H1,gcD 0 keep F H=some (b7z π (a2b keep F),H1)∧π b=some b'∧Two H1 b' k ids' cp fo:=by
 -- the blocks that rows lead to
 obtain⟨S,hS⟩:∃S,S=b::((List.range fo.length).filter λj=>(fo[j]?).any λf=>!f.isEmpty).map ids:=⟨_,rfl⟩
 have hleaf:∀c∈((List.range fo.length).filter λj=>(fo[j]?).any λf=>!f.isEmpty).map ids,a16 (a02 H c)=[]:=by
  intro c hc;obtain⟨j,hj,rfl⟩:=List.mem_map.1 hc;rw[List.mem_filter]at hj;have hjl:j<fo.length:=by simpa using hj.1
  obtain⟨f,hf⟩:∃f,fo[j]?=some f:=⟨_,z9e hjl⟩
  have hne:=hj.2;rw[hf]at hne;rw[(h.sub j f hf (λe=>by rw[e]at hne;simp at hne)).1];exact a24 (h.flat f (List.mem_of_getElem? hf))
 have hsum:((((List.range fo.length).filter λj=>(fo[j]?).any λf=>!f.isEmpty).map ids).map λc=>(a16 (a02 H c)).length).sum=0:=by exact b7o _ hleaf
 have hrow:(a16 (a02 H b)).length≤fo.length:=by
  rw[h.top];show((a3r ids cp fo).flatMap a0c).length≤_;have:∀(l:List (List AV)),(∀r∈l,(a0c r).length≤1)→(l.flatMap a0c).length≤l.length:=by
   intro l
   induction l with
   |nil=>intro _;simp
   |cons r l ih=>intro hl;have h1:=hl r (by simp);have h2:=ih (λr hr=>hl r (by simp[hr]));simp only[List.flatMap_cons,List.length_append,List.length_cons];omega
  have h2:=this (a3r ids cp fo) (by
   intro r hr;obtain⟨j,hj⟩:=List.mem_iff_getElem?.1 hr;unfold a3r at hj;rw[List.getElem?_mapIdx]at hj;cases hf:fo[j]? with
   |none=>rw[hf]at hj;cases hj
   |some f=>rw[hf]at hj;cases hj;simp only[a0c,b39];split<;>simp)
  rw[a3q]at h2;exact h2
 obtain⟨R,π,H1,g1,g2,_⟩:=d22 (m:=0) (keep:=keep) (F:=F) (H:=H) (Nat.zero_le _) S (by intro c hc;rcases hF with hF|hF<;>rw[hF]at hc<;>simp at hc<;>subst hc<;>simp[hS]) (λc hc=>absurd hc (Nat.not_lt_zero c)) (by
  intro c hc d hd;simp only[hS,List.mem_cons]at hc;rcases hc with rfl|hc
  ·rw[h.top]at hd;obtain⟨j,f,hf,hne,rfl⟩:=b25.1 hd;simp only[hS,List.mem_cons];refine .inr (List.mem_map.2 ⟨j,List.mem_filter.2 ⟨by simpa using(List.getElem?_eq_some_iff.1 hf).1,?_⟩,rfl⟩);rw[hf];cases f with|nil=>exact absurd rfl hne|cons=>rfl
  ·rw[hleaf c hc]at hd;simp at hd) (by
  have hl:(a0c ((a2b keep F).map (·.2))).length≤2:=by rcases hF with hF|hF<;>rw[hF]<;>simp
  simp only[hS,List.map_cons,List.sum_cons,hsum,List.take_zero,List.flatMap_nil,List.length_nil];omega)
 obtain⟨b',ids',e1,e2⟩:=h.ren g2 (g2.refs b (by rcases hF with hF|hF<;>rw[hF]<;>simp));exact⟨π,b',ids',H1,g1,e1,e2⟩
theorem Two.clip(h:Two H b k ids cp fo){j c:Nat}{f:List (List AV)}(hf:fo[j]?=some f)(h1:a02 H1 b=some (.row 1 ((a3r ids cp fo).set j [slV (ids j) (some c) f])))
 (h3:∀c,c≠b→a02 H1 c=a02 H c):Two H1 b k ids (λi=>if i=j then some c else cp i) fo:=by
 have hjl:j<fo.length:=(List.getElem?_eq_some_iff.1 hf).1;refine⟨?_,λi g hg hne=>?_,h.inj,h.flat⟩
 ·rw[h1]
  congr 2
  apply List.ext_getElem?;intro i;unfold a3r;rw[List.getElem?_set,List.length_mapIdx];by_cases hij:j=i
  ·subst hij;simp only[if_true,hjl];rw[List.getElem?_mapIdx,hf];simp
  ·simp only[if_neg hij];rw[List.getElem?_mapIdx,List.getElem?_mapIdx];simp only[if_neg (Ne.symm hij)]
 ·obtain⟨g1,g2⟩:=h.sub i g hg hne;rw[h3 _ g2];exact⟨g1,g2⟩
def slF(c:Option Nat):List (List AV)→AV|[]=>.nilslice|r::rs=>.islice (r::rs) c
theorem Two.frz(h:Two H b k ids cp fo)(c:Option Nat):a38 0 true (a4q (a02 H) 0 12) (.slice b 0 fo.length c)=some (.islice (fo.mapIdx λj f=>[slF (cp j) f]) c):=by
 have key:∀(rows:List (List AV)) (out:List (List AV)),rows.length=out.length→(∀(j:Nat) r o,rows[j]?=some r→out[j]?=some o→a4k 0 false (a4q (a02 H) 0 11) r=some o)→a7n 0 (a4q (a02 H) 0 11) rows=some out:=by
  intro rows
  induction rows with
  |nil=>intro out hl _;cases out with|nil=>rfl|cons=>simp at hl
  |cons r rows ih=>
   intro out hl hh;cases out with
   |nil=>simp at hl
   |cons o out=>rw[b0y,hh 0 r o rfl rfl];simp only[a0a];rw[ih out (by simpa using hl) (λj r o hr ho=>hh (j+1) r o (by simpa using hr) (by simpa using ho))]
 have e12:∀x,a4q (a02 H) 0 12 x=a4q (a02 H) 0 (11+1) x:=λ_=>rfl;rw[b0v,decide_eq_false (Nat.not_lt_zero b),cond_false,a8l (eq_true (by omega:0<12)),h.top];simp only[b04,a0a,a3q,List.drop_zero,Nat.zero_add];rw[decide_eq_true (Nat.le_refl _),cond_true,←a3q ids cp fo,List.take_length];rw[key (a3r ids cp fo) (fo.mapIdx λj f=>[slF (cp j) f]) (by rw[a3q];simp)];intro j r o hr ho;rw[List.getElem?_mapIdx]at ho;cases hf:fo[j]? with
 |none=>rw[hf]at ho;cases ho
 |some f=>
  rw[hf]at ho;rw[a65 hf]at hr;cases ho;cases hr;rw[b5o,c55];cases f with
  |nil=>rfl
  |cons x xs=>obtain⟨g1,_⟩:=h.sub j _ hf (by simp);have hfl:=h.flat _ (List.mem_of_getElem? hf);simp only[slV,slF];rw[b0v,decide_eq_false (Nat.not_lt_zero _),cond_false,a8l (eq_true (by omega:0<11)),g1];simp only[b04,a0a,List.drop_zero,Nat.zero_add];rw[decide_eq_true (by simp),cond_true];have:List.take (xs.length+1) (x::xs)=x::xs:=List.take_length (l:=x::xs);rw[this,a39 _ _ hfl]
end
theorem Two.more{H L:a03}{b k:Nat}{ids:Nat→Nat}{cp:Nat→Option Nat}{fo:List (List (List AV))}(h:Two H b k ids cp fo):Two (H++L) b k ids cp fo:=by
 have hl:∀{c:Nat} {o:AObj},a02 H c=some o→a02 (H++L) c=some o:=λhc=>by rw[a6t (eq_true (a1n hc))];exact hc
 exact⟨hl h.top,λj f hf hne=>⟨hl (h.sub j f hf hne).1,(h.sub j f hf hne).2⟩,h.inj,h.flat⟩
theorem b5m{H L:a03}{a:Nat}{o:Option AObj}(i:Nat):a02 (H.set a o++L) (H.length+i)=a02 L i:=by
 have:=a4p (H:=H.set a o) (L:=L) i
 rwa [List.length_set]at this
theorem a7m{H L:a03}{a c:Nat}{o:Option AObj}(hc:c<H.length):a02 (H.set a o++L) c=if a=c then o else a02 H c:=by
 rw[a6t (eq_true (by rw[List.length_set];exact hc)),b0s];by_cases h:a=c
 ·subst h;simp[hc]
 ·simp[h]
section
variable {H:a03}{b k:Nat}{ids:Nat→Nat}{cp:Nat→Option Nat}{fo:List (List (List AV))}{j:Nat}{x:List AV}{o:Option AObj}
theorem Two.app1(h:Two H b k ids cp fo)(hf:fo[j]?=some [])(hc:cp j=none)(hx:a0c x=[]) :
 Two (H.set b (some (.row 1 ((a3r ids cp fo).set j [.slice (H.length+1) 0 1 none])))++[o,some (.row k [x])]) b k (λi=>if i=j then H.length+1 else ids i) cp (fo.set j [x]):=by
 have hbl:=a1n h.top;refine h.app hf hc hx (by omega) ?_ ?_ ?_
 ·rw[a7m hbl,if_pos rfl];rfl
 ·rw[b5m];rfl
 ·intro i g hij hg hne;obtain⟨g1,g2⟩:=h.sub i g hg hne;rw[a7m (a1n g1),if_neg (Ne.symm g2)]
theorem Two.app2{a:List AV}{r:List (List AV)}(h:Two H b k ids cp fo)(hf:fo[j]?=some (a::r))(hc:cp j=none)(hx:a0c x=[]) :
 Two ((H.set (ids j) none).set b (some (.row 1 ((a3r ids cp fo).set j [.slice (H.length+1) 0 (r.length+1+1) none])))++[o,some (.row k (a::(r++[x])))]) b k (λi=>if i=j then H.length+1 else ids i) cp (fo.set j (a::r++[x])):=by
 have hbl:=a1n h.top;have hll:(H.set (ids j) none).length=H.length:=List.length_set;refine h.app hf hc hx (by omega) ?_ ?_ ?_
 ·rw[a7m (by rw[hll];exact hbl),if_pos rfl];rfl
 ·have:=b5m (H:=H.set (ids j) none) (L:=[o,some (.row k (a::(r++[x])))]) (a:=b) (o:=some (.row 1 ((a3r ids cp fo).set j [.slice (H.length+1) 0 (r.length+1+1) none]))) 1;rw[hll]at this;rw[this];rfl
 ·intro i g hij hg hne;obtain⟨g1,g2⟩:=h.sub i g hg hne;rw[a7m (by rw[hll];exact a1n g1),if_neg (Ne.symm g2),a4o];intro e;exact hij (h.inj i j g (a::r) hg hf hne (by simp) e.symm)
end
theorem a1r{keep:List Nat}{F:Frm}{H:a03}{b k:Nat}{ids:Nat→Nat}{cp:Nat→Option Nat}{fo:List (List (List AV))}{P:Frm→a03→Prop}(h:Two H b k ids cp fo)(hF:a0c ((a2b keep F).map (·.2))=[b]∨a0c ((a2b keep F).map (·.2))=[b,b])(hn:fo.length<900000)
 (hP:∀π b' ids' H1,π b=some b'→Two H1 b' k ids' cp fo→P (b7z π (a2b keep F)) H1):∃F1 H1,gcD 0 keep F H=some (F1,H1)∧P F1 H1:=by
 obtain⟨π,b',ids',H1,g1,g2,g3⟩:=h.gc hF hn;exact⟨_,H1,g1,hP π b' ids' H1 g2 g3⟩
def fqE(E:Env)(g:FuncId)(m:Nat)(results:List ResultVar)(P:AV×a03→Prop):b4h:=λe F H=>match e with|.exit _=>False|_=>∃vs r,a0r E F H results=some vs∧a42 (E.thaw g) m (a6w vs) H=some r∧P r
theorem c8h{E:Env}{g:FuncId}{m:Nat}{results:List ResultVar}{P:AV×a03→Prop}{F:Frm}{H:a03}{vs:List AV}{r:AV×a03}(h1:a0r E F H results=some vs)(h2:a42 (E.thaw g) m (a6w vs) H=some r)(h3:P r):fqE E g m results P .ret F H:=⟨vs,r,h1,h2,h3⟩
theorem d25{E:Env}{g:FuncId}{m:Nat}{results:List ResultVar}{P:AV×a03→Prop}{F:Frm}{H:a03}{vs:List AV}{r:AV×a03}(h1:a0r E F H results=some vs)(h2:a42 (E.thaw g) m (a6w vs) H=some r)(h3:P r):fqE E g m results P .normal F H:=⟨vs,r,h1,h2,h3⟩
theorem c7g{E:Env}{M:List Fact}{g:FuncId}{args:List AV}{H:a03}{code:Code}{N:Nat}{results:List ResultVar}{P:AV×a03→Prop}
 (hfn:E.fn g=some ⟨code,N,results⟩)(hno:∀y∈M,y.g≠g)(hN:Nat.ble args.length N=true){m:Nat}(hm:H.length=m)(h:Wp (cx E M m N g 0) code (a43 0 args) H (fqE E g m results P))(hp:E.prim g args=none:=by rfl)(hz:E.zf g=false:=by rfl)(hw:E.raw g=false:=by rfl):∃r,P r∧sem E M g args H=some r:=by
 subst hm;obtain⟨e,F',H',h1,h2⟩:=c19 _ h;cases e with
 |normal=>obtain⟨vs,⟨v,H2⟩,h3,h4,h5⟩:=h2;exact⟨_,h5,b7s hfn hno hN h1 (λ_ h=>by cases h) h3 h4 hp hz hw⟩
 |ret=>obtain⟨vs,⟨v,H2⟩,h3,h4,h5⟩:=h2;exact⟨_,h5,b7s hfn hno hN h1 (λ_ h=>by cases h) h3 h4 hp hz hw⟩
 |exit id=>exact h2.elim
theorem svE{E:Env}{M:List Fact}{g:FuncId}{args:List AV}{H:a03}{P:AV×a03→Prop}(f:Func)(h:Wp (cx E M H.length f.ntmps g 0) (f.body.getD .skip) (a43 0 args) H (fqE E g H.length f.results.toList P))(hfn:E.fn g=some ⟨f.body.getD .skip,f.ntmps,f.results.toList⟩:=by kernel_rfl)
 (hno:(M.all λy=>!Nat.beq y.g g)=true:=by rfl)(hN:Nat.ble args.length f.ntmps=true:=by rfl)(hp:E.prim g args=none:=by rfl)(hz:E.zf g=false:=by rfl)(hw:E.raw g=false:=by rfl):∃r,P r∧sem E M g args H=some r:=c7g hfn (λy hy e=>by
 have:=List.all_eq_true.1 hno y hy;rw[e]at this;simp at this) hN rfl h hp hz hw
end Go.Ax
/- AxCall3: calls over two blocks, which they may write. -/
namespace Go.Ax
end Go.Ax
/- AxLd: lent calls in the walks. -/
namespace Go.Ax
theorem c0n{E:Env}{draw:Bool}{call:CallF}{g:FuncId}{fs cs as args args':List AV}{H H1:a03}{v v':AV}(hx:E.ext g=true)(hf:(E.fn g).isSome=true)(he:fs++as++cs=args)(h1:a4k 0 false (a4q (a02 H) 0 12) args=some args')(hr:call g args' []=some (v,H1))(hn:noI v=true)(hv:a38 0 false (a4q (a6z H1) 0 12) v=some v') :
 a0o E draw call (.func (.func g) fs cs) as H=some (v',H,List.range H.length):=by
 simp only[a0o,hx,hf,he,cond_true,a68,h1,hr,hn,hv]
end Go.Ax
