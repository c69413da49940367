/- AxTop: a call from outside: a42 old block is immutable. -/
import Derived.Test.YtmiegcjnimlbmaaGreatDoorAxC
import Derived.Below
import GoSem.ClaimChange
import GoSem.ClaimJoined
import Derived.RowKit
import Derived.ChangeSame
import Derived.Carry
import Derived.IntWalk
import Derived.KernelRfl
set_option linter.unusedSimpArgs false
set_option linter.unusedVariables false
namespace Go.Ax
open Go.RowKit
def Old(w:World):Nat→Prop:=λc=>c<w.heap.size
def Holds(E:Env)(w:World):Prop:=∀g cs,E.G g=some cs→g<w.heap.size∧VAt (Old w) w noP cs g 0
theorem e25{E:Env}{f:FuncId}{run:List AV→a02→Option (AV×a02)}(hfy:f≠yId)(hf:b0d E f run){args:List AV}{v:AV}{H':a02}(h:run args []=some (v,H')){w:World}(hG:Holds E w){cargs:List Value}(ha:VRels (Old w) w noP args cargs) :
 Calls E.P f cargs.toArray w λen w'=>∃c I' ρ',en = .returned c∧Below w.heap.size w w'∧VRel I' w' ρ' v c:=by
 have rel:HRel E.G (Old w) (λ_=>False) noP (a01 []) w:=by
  refine⟨?_,?_,?_,λc hc=>hc,λc hc=>hc.elim,λ_ _ h=>h,hG⟩
  ·intro b o hb;simp[a01]at hb
  ·intro b b' m m' hb;simp[a01]at hb
  ·intro b m hb;simp[noP]at hb
 have h0:=hf args [] v H' h (Old w) (λ_=>False) noP w cargs rel (λ_ _=>rfl) ha;rw[b4r hfy]at h0;refine Calls.mono h0 ?_
 rintro en w' ⟨c,I',ρ',rfl,hret,hv⟩
 exact⟨c,I',ρ',rfl,⟨hret.ext.os,hret.ext.tape,hret.ext.output,hret.ext.size,λk hk=>hret.ext.keep k (.inl hk)⟩,hv⟩
theorem d27{E:Env}{f:FuncId}{run:List AV→a02→Option (AV×a02)}(hfy:f≠yId)(hf:b0d E f run){args:List AV}{H':a02}(h:run args []=some (.bool true,H')){w:World}(hG:Holds E w){cargs:List Value}(ha:VRels (Old w) w noP args cargs) :
 Calls E.P f cargs.toArray w λen w'=>en = .returned (.bool true)∧Below w.heap.size w w':=by
 refine(e25 hfy hf h hG ha).mono ?_
 rintro en w' ⟨c,I',ρ',rfl,hb,hv⟩
 simp only[VRel]at hv;subst hv;exact⟨rfl,hb⟩
end Go.Ax
/- AxRead: what the row's reading of an argument gives: abstract values of the argument's type. -/
namespace Go.Ax
def Typ(E:Env):Nat→TypeId→List AV→Prop
 |0,_,_=>False
 |n+1,t,avs=>match E.und t with
  |some .bool=>∃b,avs=[.bool b]
  |some (.int k)=>∃i,avs=[.int k i]∧(Lit.int k i).wf=true
  |some .string=>∃s,avs=[.str s]∧s.length≤maxLen
  |some (.slice e)=>avs=[.nilslice]∨∃rows cap,avs=[.islice rows (some cap)]∧rows.length≤cap∧cap≤maxLen∧∀r∈rows,r.length=E.sz e∧Typ E n e r
  |some (.struct fs)=>∃parts:List (List AV),avs=parts.flatten∧parts.length=fs.toList.length∧∀(i:Nat) f p,fs.toList[i]?=some f→parts[i]?=some p→p.length=E.sz f.type∧Typ E n f.type p
  |some (.array m e)=>∃parts:List (List AV),avs=parts.flatten∧parts.length=m∧∀p∈parts,p.length=E.sz e∧Typ E n e p
  |_=>False
def c77(E:Env):Nat→List Field→Option Nat
 |o,[]=>some o
 |o,f::r=>bif Nat.beq f.offset o then c77 E (o+E.sz f.type) r else none
def a4z(E:Env):Nat→TypeId→Bool
 |0,_=>false
 |n+1,t=>match E.und t with
  |some .bool=>true
  |some (.int _)=>true
  |some .string=>true
  |some (.slice e)=>(E.und e).isSome&&Nat.blt 0 (E.sz e)&&a4z E n e
  |some (.struct fs)=>(match c77 E 0 fs.toList with|some m=>Nat.beq m (E.sz t)|none=>false)&&fs.toList.all (λf=>(E.und f.type).isSome&&a4z E n f.type)
  |some (.array m e)=>(E.und e).isSome&&Nat.beq (m*E.sz e) (E.sz t)&&a4z E n e
  |_=>false
section
variable {E:Env}{w:World}{H:Type}{enc:TypeId×Value→H}{base:Nat}{spare:Nat→Bool}{held:Bool}
theorem a3z(ok:EnvOk E){t:TypeId}{d:TypeDesc}(h:E.und t=some d):E.P.cellsOf t=E.sz t:=by obtain⟨_,i,hi,h1,_⟩:=ok.und t d h;simp[Program.cellsOf,hi,h1]
theorem c7v{I:Nat→Prop}{k:Nat}{b:Nat}{Pr:List AV→Prop}:∀(len off:Nat),(∀i,i<len→∃r,Pr r∧r.length=k∧VAt I w noP r b (off+i*k))→
 ∃rows:List (List AV),rows.length=len∧(∀r∈rows,r.length=k∧Pr r)∧VRows I w k noP rows b off
 |0,off,_=>⟨[],rfl,by simp,by simp[VRows]⟩
 |len+1,off,h=>by
  obtain⟨r,h1,h2,h3⟩:=h 0 (by omega);obtain⟨rows,g1,g2,g3⟩:=c7v (Pr:=Pr) len (off+k) (λi hi=>by obtain⟨r,q1,q2,q3⟩:=h (i+1) (by omega);refine⟨r,q1,q2,?_⟩;rw[show off+k+i*k=off+(i+1)*k by rw[Nat.add_mul];omega];exact q3);refine⟨r::rows,by simp[g1],?_,?_⟩
  ·intro x hx;simp only[List.mem_cons]at hx;rcases hx with rfl|hx
   ·exact⟨h2,h1⟩
   ·exact g2 x hx
  ·simp only[VRows];exact⟨h2,by simpa using h3,g3⟩
theorem c3e{I:Nat→Prop}{cs:List Value}{n:Nat}:∀(fs:List Field) (o:Nat) {m:Nat},c77 E o fs=some m→m≤cs.length→
 (∀f∈fs,∃avs,VRels I w noP avs ((cs.drop f.offset).take (E.sz f.type))∧Typ E n f.type avs)→
 o≤m∧∃parts:List (List AV),parts.length=fs.length∧(∀(i:Nat) f p,fs[i]?=some f→parts[i]?=some p→p.length=E.sz f.type∧Typ E n f.type p)∧VRels I w noP parts.flatten ((cs.drop o).take (m-o))
 | [],o,m,ht,hm,_=>by simp only[c77,Option.some.injEq]at ht;subst ht;exact⟨Nat.le_refl _,[],rfl,by simp,by simp[VRels]⟩
 |f::r,o,m,ht,hm,h=>by
  simp only[c77,cond_eq_ite]at ht;split at ht
  case isFalse=>cases ht
  rename_i hfo;have hfo:f.offset=o:=by simpa using hfo
  obtain⟨hle,parts,h1,h2,h3⟩:=c3e r (o+E.sz f.type) ht hm (λg hg=>h g (by simp[hg]));obtain⟨avs,g1,g2⟩:=h f (by simp);rw[hfo]at g1;have hlen:avs.length=E.sz f.type:=by have:=VRels.length g1;rw[this];simp;omega
  refine⟨by omega,avs::parts,by simp[h1],?_,?_⟩
  ·intro i g p hg hp;cases i with
   |zero=>simp only[List.getElem?_cons_zero,Option.some.injEq]at hg hp;subst hg;subst hp;exact⟨hlen,g2⟩
   |succ i=>simp only[List.getElem?_cons_succ]at hg hp;exact h2 i g p hg hp
  ·simp only[List.flatten_cons];have:(cs.drop o).take (m-o)=(cs.drop o).take (E.sz f.type)++(cs.drop (o+E.sz f.type)).take (m-(o+E.sz f.type)):=by
    rw[show m-o=E.sz f.type+(m-(o+E.sz f.type)) by omega,List.take_add,List.drop_drop]
   rw[this];exact VRels.append g1 h3
theorem d6o{I:Nat→Prop}{cs:List Value}{n k:Nat}{e:TypeId}:∀(m o:Nat),o+m*k≤cs.length→
 (∀i,i<m→∃avs,VRels I w noP avs ((cs.drop (o+i*k)).take k)∧Typ E n e avs)→
 ∃parts:List (List AV),parts.length=m∧(∀p∈parts,p.length=k∧Typ E n e p)∧VRels I w noP parts.flatten ((cs.drop o).take (m*k))
 |0,o,_,_=>⟨[],rfl,by simp,by simp[VRels]⟩
 |m+1,o,hl,h=>by
  have hmk:(m+1)*k=k+m*k:=by rw[Nat.add_mul];omega
  obtain⟨parts,h1,h2,h3⟩:=d6o (cs:=cs) (k:=k) (e:=e) m (o+k) (by omega) (λi hi=>by obtain⟨avs,g1,g2⟩:=h (i+1) (by omega);refine⟨avs,?_,g2⟩;rw[show o+k+i*k=o+(i+1)*k by rw[Nat.add_mul];omega];exact g1);obtain⟨avs,g1,g2⟩:=h 0 (by omega);rw[Nat.zero_mul,Nat.add_zero]at g1;have hlen:avs.length=k:=by have:=VRels.length g1;rw[this];simp;omega
  refine⟨avs::parts,by simp[h1],?_,?_⟩
  ·intro p hp;simp only[List.mem_cons]at hp;rcases hp with rfl|hp
   ·exact⟨hlen,g2⟩
   ·exact h2 p hp
  ·simp only[List.flatten_cons];rw[hmk,List.take_add,List.drop_drop];exact VRels.append g1 h3
theorem b7m{α β:Type}{f:α→Option β}{l:List α}{r:List β}(h:l.mapM f=some r):∀x∈l,∃y,f x=some y:=by
 induction l generalizing r with
 |nil=>simp
 |cons a l ih=>
  rw[List.mapM_cons]at h;intro x hx;cases hfa:f a with
  |none=>simp[hfa]at h
  |some y=>
   simp only[hfa,Option.bind_eq_bind,Option.bind_some]at h;cases hl:l.mapM f with
   |none=>simp[hl]at h
   |some r'=>
    simp only[List.mem_cons]at hx;rcases hx with rfl|hx
    ·exact⟨y,hfa⟩
    ·exact ih hl x hx
theorem b4m{I:Nat→Prop}{avs:List AV}{cs:List Value}{b off:Nat}(hc:∀i v,cs[i]?=some v→w.cell? ⟨b,off+i,none⟩=some v)(h:VRels I w noP avs cs):VAt I w noP avs b off:=VAt.of_cells (λi v hv=>hc i v hv) h
theorem c86(ok:EnvOk E):∀(n:Nat) (t:TypeId),a4z E n t=true→∀(fuel:Nat) (cs:List Value) (x:DataW H×List MemPlace),DataW.trod enc E.P w base spare held fuel t cs=some x→
 ∃avs,VRels (Old w) w noP avs cs∧Typ E n t avs
 |0,t,hr=>by simp[a4z]at hr
 |n+1,t,hr=>by
  intro fuel cs x h;cases fuel with
  |zero=>simp[DataW.trod]at h
  |succ fuel=>
  have ih:=c86 ok n;unfold a4z at hr;unfold DataW.trod at h;cases hu:E.und t with
  |none=>rw[hu]at hr;simp at hr
  |some d=>
   have hP:=(ok.und t d hu).1;have hsz:=a3z ok hu;rw[hu]at hr;rw[hP]at h;cases d<;>simp only[Bool.false_eq_true]at hr
   case bool=>
    obtain⟨b,rfl⟩:∃b,cs=[.bool b]:=by split at h<;>simp_all
    exact⟨[.bool b],by simp[VRels,VRel],by simp[Typ,hu]⟩
   case int k=>
    obtain⟨i,rfl,hw⟩:∃i,cs=[.int k i]∧(Lit.int k i).wf=true:=by split at h<;>simp_all
    exact⟨[.int k i],by simp[VRels,VRel],by simp[Typ,hu,hw]⟩
   case string=>
    obtain⟨b,rfl,hw⟩:∃b:ByteArray,cs=[.string b]∧b.size≤maxLen:=by split at h<;>simp_all
    exact⟨[.str b.data.toList],by simp[VRels,VRel],by simp only[Typ,hu];exact⟨_,rfl,by simpa using hw⟩⟩
   case slice e=>
    simp only[Bool.and_eq_true,Nat.blt_eq]at hr;obtain⟨⟨hr1,hr2⟩,hr3⟩:=hr;obtain⟨de,hde⟩:=Option.isSome_iff_exists.1 hr1;have hsze:=a3z ok hde;have hkey:cs=[.slice none 0 0]∨∃a len cap,cs=[.slice (some a) len cap]∧len≤cap∧cap≤maxLen∧
     ∃elems,((List.range len).mapM λi=>(w.cells? base (a.add (i*E.P.cellsOf e)) (E.P.cellsOf e)).bind (DataW.trod enc E.P w base spare held fuel e))=some elems:=by
     split at h
     all_goals first|(rename_i heq;cases heq;done)|(cases h;done)|skip
     ·left;rfl
     ·rename_i e' a len cap heq;cases heq;dsimp only at h;split at h
      case isFalse=>cases h
      rename_i hc;right;refine⟨a,len,cap,rfl,hc.2.1,hc.2.2,?_⟩;cases hm:((List.range len).mapM λi=>(w.cells? base (a.add (i*E.P.cellsOf e)) (E.P.cellsOf e)).bind (DataW.trod enc E.P w base spare held fuel e))with
      |none=>rw[hm]at h;simp at h
      |some elems=>exact⟨elems,rfl⟩
    rcases hkey with rfl|⟨a,len,cap,rfl,hlc,hcm,elems,hel⟩
    ·exact⟨[.nilslice],by simp[VRels,VRel],by simp only[Typ,hu];exact .inl trivial⟩
    ·have hrow:∀i,i<len→∃r,Typ E n e r∧r.length=E.sz e∧VAt (Old w) w noP r a.block (a.off+i*E.sz e)∧a.spot=none∧a.block<w.heap.size:=by
      have hat:∀i,i<len→∃cs' y,cs'.length=E.sz e∧(∀j,j<E.sz e→w.cell? ((a.add (i*E.sz e)).add j)=cs'[j]?)∧DataW.trod enc E.P w base spare held fuel e cs'=some y:=by
       intro i hi;obtain⟨y,hy⟩:=b7m hel i (by simpa using hi);rw[hsze]at hy;cases hc:w.cells? base (a.add (i*E.sz e)) (E.sz e)with
       |none=>rw[hc]at hy;simp at hy
       |some cs'=>rw[hc]at hy;obtain⟨_,h2,h3⟩:=World.cells?_some hc;exact⟨cs',y,h2,h3,by simpa using hy⟩
      intro i hi;have hspot:a.spot=none∧a.block<w.heap.size:=by
       obtain⟨cs0,y0,h1,h2,_⟩:=hat 0 (by omega);have h3:=h2 0 hr2;rw[Nat.zero_mul,show(a.add 0).add 0=a from by simp[Addr.add],z9e (by omega)]at h3;unfold World.cell? at h3;split at h3
       ·rename_i hb;refine⟨?_,(Array.getElem?_eq_some_iff.1 hb).1⟩;cases hs:a.spot with
        |none=>rfl
        |some _=>rw[hs]at h3;simp at h3
       ·cases h3
      obtain⟨cs',y,h1,h2,h3⟩:=hat i hi;obtain⟨r,q1,q2⟩:=ih e hr3 fuel cs' y h3;refine⟨r,q2,by rw[VRels.length q1,h1],b4m ?_ q1,hspot⟩;intro j v hv;have hj:j<E.sz e:=by rw[←h1];exact(List.getElem?_eq_some_iff.1 hv).1
      have:=h2 j hj;rw[hv]at this;rw[←this]
      congr 1
      obtain⟨ab,ao,as⟩:=a;obtain⟨rfl,_⟩:=hspot;unfold Addr.add;split<;>split<;>simp_all
     obtain⟨rows,g1,g2,g3⟩:=c7v (Pr:=Typ E n e) len a.off (λi hi=>by obtain⟨r,q1,q2,q3,_⟩:=hrow i hi;exact⟨r,q1,q2,q3⟩);refine⟨[.islice rows (some cap)],?_,by simp only[Typ,hu];exact .inr ⟨rows,cap,rfl,by omega,hcm,g2⟩⟩;simp only[VRels];refine⟨_,[],rfl,?_,rfl⟩;simp only[VRel];refine⟨a,cap,E.sz e,by rw[g1],by omega,by simp,?_⟩;cases len with
     |zero=>exact .inl (List.length_eq_zero_iff.1 g1)
     |succ len=>obtain⟨_,_,_,_,q4,q5⟩:=hrow 0 (by omega);exact .inr ⟨q4,q5,g3⟩
   case struct fs=>
    simp only[Bool.and_eq_true,List.all_eq_true]at hr;obtain⟨hr1,hr2⟩:=hr;split at hr1
    case h_2=>cases hr1
    rename_i m hm;have hmt:m=E.sz t:=by simpa using hr1
    have hkey:cs.length=E.P.cellsOf t∧∃xs,(fs.toList.mapM λf=>DataW.trod enc E.P w base spare held fuel f.type ((cs.drop f.offset).take (E.P.cellsOf f.type)))=some xs:=by
     dsimp only at h;split at h
     ·rename_i hl;obtain⟨xs,hxs,_⟩:=a05 h;exact⟨hl,xs,hxs⟩
     ·cases h
    obtain⟨hlen,xs,hxs⟩:=hkey;obtain⟨_,parts,h1,h2,h3⟩:=c3e (E:=E) (I:=Old w) (w:=w) (cs:=cs) (n:=n) fs.toList 0 hm (by omega) (λf hf=>by obtain⟨y,hy⟩:=b7m hxs f hf;have h2:=hr2 f hf;obtain⟨df,hdf⟩:=Option.isSome_iff_exists.1 h2.1;rw[a3z ok hdf]at hy;exact ih f.type h2.2 fuel _ _ hy);refine⟨parts.flatten,?_,by simp only[Typ,hu];exact⟨parts,rfl,h1,h2⟩⟩;rw[List.drop_zero,Nat.sub_zero,List.take_of_length_le (by omega)]at h3;exact h3
   case array m e=>
    simp only[Bool.and_eq_true]at hr;obtain⟨⟨hr1,hr2⟩,hr3⟩:=hr;obtain⟨de,hde⟩:=Option.isSome_iff_exists.1 hr1;have hsze:=a3z ok hde;have hmk:m*E.sz e=E.sz t:=by simpa using hr2
    have hkey:cs.length=E.P.cellsOf t∧∃xs,((List.range m).mapM λi=>DataW.trod enc E.P w base spare held fuel e ((cs.drop (i*E.P.cellsOf e)).take (E.P.cellsOf e)))=some xs:=by
     dsimp only at h;split at h
     ·rename_i hl;obtain⟨xs,hxs,_⟩:=a05 h;exact⟨hl,xs,hxs⟩
     ·cases h
    obtain⟨hlen,xs,hxs⟩:=hkey;obtain⟨parts,h1,h2,h3⟩:=d6o (E:=E) (I:=Old w) (w:=w) (cs:=cs) (n:=n) (k:=E.sz e) (e:=e) m 0 (by omega) (λi hi=>by obtain⟨y,hy⟩:=b7m hxs i (by simpa using hi);rw[hsze]at hy;rw[Nat.zero_add];exact ih e hr3 fuel _ _ hy);refine⟨parts.flatten,?_,by simp only[Typ,hu];exact⟨parts,rfl,h1,h2⟩⟩;rw[List.drop_zero,List.take_of_length_le (by omega)]at h3;exact h3
end
end Go.Ax
/- AxArgs: a row's arguments as abstract values. -/
namespace Go.Ax
def e1u(E:Env)(n:Nat)(t:TypeId)(av:AV):Prop:=
 match E.und t with
 |some d=>bif a28 d then ∃avs,av = .agg avs∧Typ E n t avs else Typ E n t [av]
 |none=>False
def TypAs(E:Env)(n:Nat):List TypeId→List AV→Prop
 | [],avs=>avs=[]
 |t::ts,avs=>∃a r,avs=a::r∧e1u E n t a∧TypAs E n ts r
section
variable {E:Env}{w:World}{H:Type}{enc:TypeId×Value→H}{spare:Nat→Bool}{held:Bool}{b0:Nat}
theorem e4k(ok:EnvOk E){n:Nat}{t:TypeId}{v:Value}{d:DataW H}{ps:List MemPlace}(hr:a4z E n t=true)(hv:Value.okWide E.P w .any b0 t v)(h:DataW.Trod enc E.P w 0 spare held t v d ps) :
 ∃a,VRel (Old w) w noP a v∧e1u E n t a:=by
 obtain⟨fuel,hf⟩:=h;obtain⟨avs,h1,h2⟩:=c86 ok n t hr fuel _ _ hf;cases hu:E.und t with
 |none=>cases n<;>simp[a4z,hu]at hr
 |some dd=>
  have hP:=(ok.und t dd hu).1;unfold Value.okWide at hv;rw[hP]at hv;cases hag:a28 dd with
  |true=>
   have hv:∃cs,v = .agg cs∧cs.size=E.P.cellsOf t∧Row.okWide E.P w .any b0 t cs:=by cases dd<;>simp[a28]at hag<;>exact hv
   obtain⟨cs,rfl,_,_⟩:=hv;exact⟨.agg avs,by simp only[VRel];exact⟨cs,rfl,h1⟩,by simp only[e1u,hu,hag,cond_true];exact⟨avs,rfl,h2⟩⟩
  |false=>
   have hcell:v.cells = #[v]:=by
    cases v with
    |agg cs=>exfalso;cases dd<;>simp[a28]at hag<;>simp[Cell.okWide,Cell.ok,hP]at hv
    |_=>rfl
   rw[hcell]at h1;have h3:=h1;obtain⟨a,rfl⟩:∃a,avs=[a]:=by
    have:=VRels.length h1
    match avs,this with
    | [a],_=>exact⟨a,rfl⟩
   simp only[VRels]at h3;obtain⟨c,_,hc,h4,rfl⟩:=h3;simp only[List.cons.injEq,and_true]at hc;subst hc;exact⟨a,h4,by simp only[e1u,hu,hag,cond_false];exact h2⟩
theorem d15(ok:EnvOk E){n:Nat}:∀(ts:List TypeId) (vs:List Value) (ds:List (DataW H)) (ps:List MemPlace),DataW.TrodAll enc E.P w 0 spare held ts vs ds ps→
 (∀(j:Nat) t v,ts[j]?=some t→vs[j]?=some v→Value.okWide E.P w .any b0 t v)→(ts.all (a4z E n))=true→∃args,VRels (Old w) w noP args vs∧TypAs E n ts args
 | [],vs,ds,ps,h,_,_=>by
  cases vs with
  |nil=>exact⟨[],by simp[VRels],rfl⟩
  |cons v vs=>cases ds<;>simp[DataW.TrodAll]at h
 |t::ts,vs,ds,ps,h,hv,hr=>by
  cases vs with
  |nil=>cases ds<;>simp[DataW.TrodAll]at h
  |cons v vs=>
   cases ds with
   |nil=>simp[DataW.TrodAll]at h
   |cons d ds=>simp only[DataW.TrodAll]at h;obtain⟨p,q,h1,h2,_⟩:=h;simp only[List.all_cons,Bool.and_eq_true]at hr;obtain⟨a,g1,g2⟩:=e4k ok hr.1 (hv 0 t v rfl rfl) h1;obtain⟨r,g3,g4⟩:=d15 ok ts vs ds q h2 (λj t v ht hv'=>hv (j+1) t v (by simpa using ht) (by simpa using hv')) hr.2;exact⟨a::r,by simp only[VRels];exact⟨v,vs,rfl,g1,g3⟩,⟨a,r,rfl,g2,g4⟩⟩
end
end Go.Ax
/- AxLaid: what a listed package-level variable d2r as, as abstract cells. -/
namespace Go.Ax
def c40(E:Env)(f:TypeId→DataW Unit→Option (List AV)):Nat→List Field→List (DataW Unit)→Option (List AV)
 |_,[],[]=>some []
 |o,x::fs,d::ds=>bif Nat.beq x.offset o&&(E.und x.type).isSome then
  match f x.type d,c40 E f (o+E.sz x.type) fs ds with
  |some a,some b=>bif Nat.beq a.length (E.sz x.type)then some (a++b)else none
  |_,_=>none
  else none
 |_,_,_=>none
def b3x(k:Nat)(f:DataW Unit→Option (List AV)):List (DataW Unit)→Option (List (List AV))
 | []=>some []
 |d::ds=>match f d,b3x k f ds with
  |some a,some b=>bif Nat.beq a.length k then some (a::b)else none
  |_,_=>none
def b51(E:Env):Nat→TypeId→DataW Unit→Option (List AV)
 |0,_,_=>none
 |n+1,t,d=>match E.und t,d with
  |some .bool,.lit (.bool b)=>some [.bool b]
  |some (.int k),.lit (.int k' i)=>bif k==k' then some [.int k i]else none
  |some .string,.lit (.string s)=>some [.str s]
  |some (.struct fs),.agg ds=>match c40 E (b51 E n) 0 fs.toList ds with
   |some avs=>bif Nat.beq avs.length (E.sz t)then some avs else none
   |none=>none
  |some (.array m e),.agg ds=>bif (E.und e).isSome&&Nat.beq (m*E.sz e) (E.sz t)&&Nat.beq ds.length m then(b3x (E.sz e) (b51 E n e) ds).map List.flatten else none
  |some (.slice _),.nil=>some [.nilslice]
  |some (.slice e),.slice es spare=>bif (E.und e).isSome&&Nat.blt 0 (E.sz e)&&Nat.blt 0 es.length then(b3x (E.sz e) (b51 E n e) es).map λrows=>[.islice rows (some (es.length+spare.length))]else none
  |_,_=>none
section
variable {E:Env}{w:World}{enc:TypeId×Value→Unit}{base:Nat}{held:Bool}
theorem a74{α β:Type}{f:α→Option β}{a:α}{l:List α}{r:List β}(h:(a::l).mapM f=some r):∃b r',f a=some b∧l.mapM f=some r'∧r=b::r':=by
 rw[List.mapM_cons]at h;cases hfa:f a with
 |none=>simp[hfa]at h
 |some y=>
  simp only[hfa,Option.bind_eq_bind,Option.bind_some]at h;cases hl:l.mapM f with
  |none=>simp[hl]at h
  |some r'=>simp only[hl,Option.bind_some]at h;cases h;exact⟨y,r',rfl,rfl,rfl⟩
theorem b7k{α β:Type}{f:α→Option β}:∀{l:List α} {r:List β},l.mapM f=some r→r.length=l.length
 | [],r,h=>by cases h;rfl
 |a::l,r,h=>by obtain⟨b,r',_,h2,rfl⟩:=a74 h;simp[b7k h2]
theorem b7l{α β:Type}{f:α→Option β}:∀{l:List α} {r:List β},l.mapM f=some r→∀(i:Nat) a,l[i]?=some a→∃b,f a=some b∧r[i]?=some b
 | [],r,h,i,a,ha=>by simp at ha
 |x::l,r,h,i,a,ha=>by
  obtain⟨b,r',h1,h2,rfl⟩:=a74 h;cases i with
  |zero=>simp only[List.getElem?_cons_zero,Option.some.injEq]at ha;subst ha;exact⟨b,h1,rfl⟩
  |succ i=>simp only[List.getElem?_cons_succ]at ha⊢;exact b7l h2 i a ha
theorem b0y{k:Nat}{f:DataW Unit→Option (List AV)}:∀{ds:List (DataW Unit)} {rows:List (List AV)},b3x k f ds=some rows→rows.length=ds.length
 | [],rows,h=>by cases h;rfl
 |d::ds,rows,h=>by
  simp only[b3x]at h;split at h
  case h_2=>cases h
  rename_i a b ha hb;rw[cond_eq_ite]at h;split at h
  ·cases h;simp[b0y hb]
  ·cases h
theorem b0z{k:Nat}{f:DataW Unit→Option (List AV)}:∀{ds:List (DataW Unit)} {rows:List (List AV)},b3x k f ds=some rows→∀(i:Nat) d,ds[i]?=some d→∃a,f d=some a∧a.length=k∧rows[i]?=some a
 | [],rows,h,i,d,hd=>by simp at hd
 |x::ds,rows,h,i,d,hd=>by
  simp only[b3x]at h;split at h
  case h_2=>cases h
  rename_i a b ha hb;rw[cond_eq_ite]at h;split at h
  case isFalse=>cases h
  rename_i hk;cases h;cases i with
  |zero=>simp only[List.getElem?_cons_zero,Option.some.injEq]at hd;subst hd;exact⟨a,ha,by simpa using hk,rfl⟩
  |succ i=>simp only[List.getElem?_cons_succ]at hd⊢;exact b0z hb i d hd
theorem b40{I:Nat→Prop}{cs:List Value}{f:TypeId→DataW Unit→Option (List AV)}{g:Field→Option (DataW Unit×List MemPlace)}
 (hg:∀x y avs,g x=some y→f x.type y.1=some avs→VRels I w noP avs ((cs.drop x.offset).take (E.sz x.type))) :
 ∀(fs:List Field) (o:Nat) {xs:List (DataW Unit×List MemPlace)} {avs:List AV},fs.mapM g=some xs→c40 E f o fs (xs.map (·.1))=some avs→VRels I w noP avs ((cs.drop o).take avs.length)
 | [],o,xs,avs,hm,hf=>by cases hm;cases hf;simp[VRels]
 |x::fs,o,xs,avs,hm,hf=>by
  obtain⟨y,ys,h1,h2,rfl⟩:=a74 hm;simp only[List.map_cons,c40]at hf;rw[cond_eq_ite]at hf;split at hf
  case isFalse=>cases hf
  rename_i hc;simp only[Bool.and_eq_true,Nat.beq_eq]at hc;split at hf
  case h_2=>cases hf
  rename_i a b ha hb;rw[cond_eq_ite]at hf;split at hf
  case isFalse=>cases hf
  rename_i hl;rw[Nat.beq_eq]at hl;cases hf;have ih:=b40 hg fs _ h2 hb;have h3:=hg x y a h1 ha;rw[hc.1,←hl]at h3;rw[List.length_append,List.take_add,List.drop_drop,hl]at *;exact VRels.append h3 ih
theorem b9a{I:Nat→Prop}{cs:List Value}{k:Nat}:∀(rows:List (List AV)) (o:Nat),(∀(i:Nat) r,rows[i]?=some r→r.length=k∧VRels I w noP r ((cs.drop (o+i*k)).take k))→
 VRels I w noP rows.flatten ((cs.drop o).take (rows.length*k))
 | [],o,_=>by simp[VRels]
 |r::rows,o,h=>by have h0:=h 0 r rfl;have ih:=b9a rows (o+k) (λi r hr=>by have:=h (i+1) r (by simpa using hr);rw[show o+k+i*k=o+(i+1)*k by rw[Nat.add_mul];omega];exact this);simp only[List.flatten_cons,List.length_cons];rw[show(rows.length+1)*k=k+rows.length*k by rw[Nat.add_mul];omega,List.take_add,List.drop_drop];refine VRels.append ?_ ih;simpa using h0.2
theorem b9w(ok:EnvOk E):∀(n:Nat) (t:TypeId) (fuel:Nat) (cs:List Value) (x:DataW Unit×List MemPlace) (avs:List AV),DataW.trod enc E.P w base (λ_=>true) held fuel t cs=some x→b51 E n t x.1=some avs→
 VRels (Old w) w noP avs cs
 |0,t,fuel,cs,x,avs,_,hf=>by simp[b51]at hf
 |n+1,t,0,cs,x,avs,h,hf=>by simp[DataW.trod]at h
 |n+1,t,fuel+1,cs,x,avs,h,hf=>by
  have ih:=b9w ok n;unfold b51 at hf;unfold DataW.trod at h;cases hu:E.und t with
  |none=>rw[hu]at hf;simp at hf
  |some dd=>
   have hP:=(ok.und t dd hu).1;have hszt:=a3z ok hu;rw[hu]at hf;rw[hP]at h;cases dd
   case bool=>
    obtain⟨b,rfl,rfl⟩:∃b,cs=[.bool b]∧x=(.lit (.bool b),[]):=by split at h<;>simp_all
    simp only[Option.some.injEq]at hf;subst hf;simp[VRels,VRel]
   case int k=>
    obtain⟨b,rfl,rfl⟩:∃b,cs=[.int k b]∧x=(.lit (.int k b),[]):=by split at h<;>simp_all
    simp only[cond_eq_ite]at hf;split at hf
    ·cases hf;simp[VRels,VRel]
    ·cases hf
   case string=>
    obtain⟨b,rfl,rfl⟩:∃b:ByteArray,cs=[.string b]∧x=(.lit (.string b.data.toList),[]):=by split at h<;>simp_all
    simp only[Option.some.injEq]at hf;subst hf;simp[VRels,VRel]
   case struct fs=>
    dsimp only at h;split at h
    case isFalse=>cases h
    rename_i hl;obtain⟨xs,hxs,rfl⟩:=a05 h;dsimp only at hf;split at hf
    case h_2=>cases hf
    rename_i avs' hff;rw[cond_eq_ite]at hf;split at hf
    case isFalse=>cases hf
    rename_i hl2;rw[Nat.beq_eq]at hl2;cases hf;have key:=b40 (E:=E) (I:=Old w) (w:=w) (cs:=cs) (f:=b51 E n)
     (g:=λf=>DataW.trod enc E.P w base (λ_=>true) held fuel f.type ((cs.drop f.offset).take (E.P.cellsOf f.type))) ?_ fs.toList 0 hxs hff
    ·rw[List.drop_zero,List.take_of_length_le (by omega)]at key;exact key
    ·intro x y avs hy hfa;have hund:∃dx,E.und x.type=some dx:=by
      cases n with
      |zero=>simp[b51]at hfa
      |succ n=>unfold b51 at hfa;cases hux:E.und x.type with
       |none=>rw[hux]at hfa;simp at hfa
       |some dx=>exact⟨dx,rfl⟩
     obtain⟨dx,hdx⟩:=hund;rw[a3z ok hdx]at hy;exact ih x.type fuel _ y avs hy hfa
   case array m e=>
    dsimp only at h;split at h
    case isFalse=>cases h
    rename_i hl;obtain⟨xs,hxs,rfl⟩:=a05 h;dsimp only at hf;rw[cond_eq_ite]at hf;split at hf
    case isFalse=>cases hf
    rename_i hc;simp only[Bool.and_eq_true,Nat.beq_eq]at hc;obtain⟨rows,hrows,rfl⟩:=a05 hf;obtain⟨de,hde⟩:=Option.isSome_iff_exists.1 hc.1.1;have hsze:=a3z ok hde;have hlen:rows.length=m:=by rw[b0y hrows];simpa using hc.2
    have key:=b9a (I:=Old w) (w:=w) (cs:=cs) (k:=E.sz e) rows 0 (λi r hr=>by
     have hi:i<m:=by rw[←hlen];exact(List.getElem?_eq_some_iff.1 hr).1
     obtain⟨y,hy,hyi⟩:=b7l hxs i i (by simp[hi]);obtain⟨a,ha,hal,hai⟩:=b0z hrows i y.1 (by simp[hyi]);rw[hr]at hai;cases hai;refine⟨hal,?_⟩;rw[Nat.zero_add];rw[hsze]at hy;exact ih e fuel _ y r hy ha)
    rw[List.drop_zero,List.take_of_length_le (by rw[hlen];omega)]at key;exact key
   case slice e=>
    split at h
    all_goals first|(rename_i heq;cases heq;done)|(cases h;done)|skip
    ·cases h;simp only[Option.some.injEq]at hf;subst hf;simp[VRels,VRel]
    ·rename_i e' a len cap heq;cases heq;dsimp only at h;split at h
     case isFalse=>cases h
     rename_i hc;cases hm:((List.range len).mapM λi=>(w.cells? base (a.add (i*E.P.cellsOf e)) (E.P.cellsOf e)).bind (DataW.trod enc E.P w base (λ_=>true) held fuel e))with
     |none=>rw[hm]at h;simp at h
     |some elems=>
      rw[hm]at h;simp only[Option.bind_some,if_true]at h;obtain⟨rest,hrest,rfl⟩:=a05 h;dsimp only at hf;rw[cond_eq_ite]at hf;split at hf
      case isFalse=>cases hf
      rename_i hc2;simp only[Bool.and_eq_true,Nat.blt_eq,List.length_map]at hc2;obtain⟨rows,hrows,rfl⟩:=a05 hf;obtain⟨de,hde⟩:=Option.isSome_iff_exists.1 hc2.1.1;have hsze:=a3z ok hde;have hlr:rows.length=elems.length:=by rw[b0y hrows];simp
      have hle:elems.length=len:=by rw[b7k hm];simp
      have hlrest:rest.length=cap-len:=by rw[b7k hrest];simp
      have hat:∀i,i<len→∃cs' y,elems[i]?=some y∧cs'.length=E.sz e∧(∀j,j<E.sz e→w.cell? ((a.add (i*E.sz e)).add j)=cs'[j]?)∧DataW.trod enc E.P w base (λ_=>true) held fuel e cs'=some y:=by
       intro i hi;obtain⟨y,hy,hyi⟩:=b7l hm i i (by simp[hi]);rw[hsze]at hy;cases hcs:w.cells? base (a.add (i*E.sz e)) (E.sz e)with
       |none=>rw[hcs]at hy;simp at hy
       |some cs'=>rw[hcs]at hy;obtain⟨_,h2,h3⟩:=World.cells?_some hcs;exact⟨cs',y,hyi,h2,h3,by simpa using hy⟩
      have hspot:a.spot=none∧a.block<w.heap.size:=by
       obtain⟨cs0,y0,_,h1,h2,_⟩:=hat 0 (by omega);have h3:=h2 0 hc2.1.2;rw[Nat.zero_mul,show(a.add 0).add 0=a from by simp[Addr.add],z9e (by omega)]at h3;unfold World.cell? at h3;split at h3
       ·rename_i hb;refine⟨?_,(Array.getElem?_eq_some_iff.1 hb).1⟩;cases hs:a.spot with
        |none=>rfl
        |some _=>rw[hs]at h3;simp at h3
       ·cases h3
      simp only[VRels];refine⟨_,[],rfl,?_,rfl⟩;simp only[VRel];refine⟨a,cap,E.sz e,by rw[hlr,hle],by omega,λn hn=>by cases hn;simp;omega,.inr ⟨hspot.1,hspot.2,?_⟩⟩;have key:∀(rows':List (List AV)) (o:Nat),(∀(i:Nat) r,rows'[i]?=some r→r.length=E.sz e∧VAt (Old w) w noP r a.block (a.off+(o+i)*E.sz e))→VRows (Old w) w (E.sz e) noP rows' a.block (a.off+o*E.sz e):=by
       intro rows'
       induction rows' with
       |nil=>intro o _;simp[VRows]
       |cons r rs ihr=>intro o hh;have h0:=hh 0 r rfl;simp only[VRows];refine⟨h0.1,by simpa using h0.2,?_⟩;rw[show a.off+o*E.sz e+E.sz e=a.off+(o+1)*E.sz e by rw[Nat.add_mul];omega];refine ihr (o+1) (λi r hr=>?_);have:=hh (i+1) r (by simpa using hr);rw[show o+1+i=o+(i+1) by omega];exact this
      have:=key rows 0 (λi r hr=>by
       have hi:i<len:=by rw[←hle,←hlr];exact(List.getElem?_eq_some_iff.1 hr).1
       obtain⟨cs',y,h0,h1,h2,h3⟩:=hat i hi;obtain⟨av,ha,hal,hai⟩:=b0z hrows i y.1 (by simp[h0]);rw[hr]at hai;cases hai;refine⟨hal,?_⟩;rw[Nat.zero_add];refine b4m ?_ (ih e fuel _ y r h3 ha);intro j v hv;have hj:j<E.sz e:=by rw[←h1];exact(List.getElem?_eq_some_iff.1 hv).1
       have:=h2 j hj;rw[hv]at this;rw[←this]
       congr 1
       obtain⟨ab,ao,as⟩:=a;obtain⟨rfl,_⟩:=hspot;unfold Addr.add;split<;>split<;>simp_all)
      simpa using this
   all_goals (simp only at hf;first|(cases hf;done)|(split at hf<;>cases hf))
theorem holds_of_laid(ok:EnvOk E){laid:List (String×DataW Unit)}(h:laidMet E.P laid w)
 (hG:∀g cs,E.G g=some cs→∃x∈laid,E.P.globalNamed x.1=some g∧∃t,(E.P.globals[g]?).map (·.type)=some t∧b51 E 8 t x.2=some cs):Holds E w:=by
 obtain⟨ps,hv,hnd,hcell⟩:=h;have hall:∀(l:List (String×DataW Unit)) ps,DataW.LaidVars E.P w l ps→∀x∈l,∃g t cs fuel p,E.P.globalNamed x.1=some g∧(E.P.globals[g]?).map (·.type)=some t∧w.var? E.P x.1=some cs∧DataW.trod (λ_=>()) E.P w 0 (λ_=>true) false fuel t cs.toList=some (x.2,p):=by
  intro l
  induction l with
  |nil=>intro ps _ x hx;simp at hx
  |cons y r ih=>
   intro ps hv x hx;obtain⟨n,d⟩:=y;simp only[DataW.LaidVars]at hv;obtain⟨g,t,cs,fuel,p,q,h1,h2,h3,h4,h5,_⟩:=hv;simp only[List.mem_cons]at hx;rcases hx with rfl|hx
   ·exact⟨g,t,cs,fuel,p,h1,h2,h3,h4⟩
   ·exact ih q h5 x hx
 intro g cs hg;obtain⟨x,hx,h1,t,h2,h3⟩:=hG g cs hg;obtain⟨g',t',cs',fuel,p,k1,k2,k3,k4⟩:=hall laid ps hv x hx;obtain rfl:g'=g:=z9o (k1.symm.trans h1);obtain rfl:t'=t:=z9o (k2.symm.trans h2);have hr:=b9w ok 8 t' fuel _ (x.2,p) cs k4 h3;unfold World.var? at k3;rw[k1]at k3;simp only[Option.bind_some]at k3;split at k3
 case h_2=>cases k3
 rename_i cs2 e fz hheap;cases k3;refine⟨(Array.getElem?_eq_some_iff.1 hheap).1,?_⟩;refine VAt.of_cells (cs:=cs'.toList) (CellsAt.of_heap hheap ?_) hr;intro j v hv;simpa using hv
end
end Go.Ax
/- AxLaw: from a run of a law's body that answers true, for all d74 arguments, to what a row asks. -/
namespace Go.Ax
open Go.ChangeShapes Go.WideShapes Go.RowKit
section
variable {E:Env}{H:Type}{enc:TypeId×Value→H}
theorem a9o{P:Program}(hl:laidOutB P=true){W W':World}(hb:Below W.heap.size W W'){sp:Nat→Bool}:∀(ts:List TypeId) (vs:List Value) (ds:List (DataW H)) (ps:List MemPlace),
 (ts.all λt=>P.readableRec t&&decide (t<P.types.size))=true→(∀p∈ps,p.block<W.heap.size)→(∀p∈ps,sp p.block=true)→
 DataW.TrodAll enc P W 0 (λ_=>true) true ts vs ds ps→DataW.TrodAll enc P W' 0 sp true ts vs ds ps
 | [],vs,ds,ps,_,_,_,h=>by cases vs<;>cases ds<;>simp only[DataW.TrodAll]at h⊢<;>exact h
 |t::ts,vs,ds,ps,hr,hlt,hs,h=>by
  cases vs with
  |nil=>simp[DataW.TrodAll]at h
  |cons v vs=>
   cases ds with
   |nil=>simp[DataW.TrodAll]at h
   |cons d ds=>simp only[DataW.TrodAll]at h⊢;obtain⟨p,q,h1,h2,rfl⟩:=h;simp only[List.all_cons,Bool.and_eq_true,decide_eq_true_eq]at hr;refine⟨p,q,?_,a9o hl hb ts vs ds q hr.2 (λx hx=>hlt x (by simp[hx])) (λx hx=>hs x (by simp[hx])) h2,rfl⟩;exact WideElems.Trod_stays hl hr.1.1 hr.1.2 h1 (λx hx=>hb.same (hlt x (by simp[hx]))) (λx hx=>hs x (by simp[hx]))
theorem d3h{P:Program}(hl:laidOutB P=true){f:Func}{s:ChangeSpec}(hvs:s.vars=[]){n:Nat}(hn:f.params.toList.length=n)
 (hs:∀ds:List (DataW H),ds.length=n→(s.fn H ds).results=[.lit (.bool true)]∧(s.fn H ds).args=ds∧(s.fn H ds).vars=[]){tb:TypeId}(hres:f.resultTypes = #[tb])(htb:P.underlying tb=some .bool)
 (hpar:(f.params.toList.all λt=>P.readableRec t&&decide (t<P.types.size))=true)
 {W W':World}{args:Array Value}{ds gs:List (DataW H)}{before:List MemPlace}(hW:DataW.Whole enc P f.params.toList s.vars false W args.toList ds gs before)(hb:Below W.heap.size W W') :
 s.post enc P f false true false false W args (.bool true) W':=by
 have hlt:∀p∈before,p.block<W.heap.size:=λp hp=>hW.lt p hp;have hold:∀p∈before,(λb=>decide (b<W.heap.size)) p.block=true:=λp hp=>by simpa using hlt p hp
 have hW0:=hW;obtain⟨p,q,hA,hV,rfl,hz,hnd⟩:=hW;rw[hvs]at hV;obtain⟨rfl,rfl⟩:=trodVars_none hV;have hlen:ds.length=n:=by
  have:∀(ts:List TypeId) (vs:List Value) (ds:List (DataW H)) (ps:List MemPlace),DataW.TrodAll enc P W 0 (λ_=>true) true ts vs ds ps→ds.length=ts.length:=by
   intro ts
   induction ts with
   |nil=>intro vs ds ps h;cases vs<;>cases ds<;>simp[DataW.TrodAll]at h<;>rfl
   |cons t ts ih=>
    intro vs ds ps h;cases vs with
    |nil=>simp[DataW.TrodAll]at h
    |cons v vs=>cases ds with
     |nil=>simp[DataW.TrodAll]at h
     |cons d ds=>simp only[DataW.TrodAll]at h;obtain⟨p,q,_,h2,_⟩:=h;simp[ih vs ds q h2]
  rw[this _ _ _ _ hA,hn]
 obtain⟨s1,s2,s3⟩:=hs (ds++[]) (by simpa using hlen);rw[List.append_nil]at hlt hold;have hargs:∀sp:Nat→Bool,(∀x∈p,sp x.block=true)→DataW.TrodAll enc P W' 0 sp true f.params.toList args.toList (s.fn H (ds++[])).args p:=by intro sp hsp;rw[s2,List.append_nil];exact a9o hl hb _ _ _ _ hpar hlt hsp hA
 have hvars:∀sp:Nat→Bool,DataW.TrodVars enc P W' sp s.vars (s.fn H (ds++[])).vars []:=by intro sp;rw[s3,hvs];rfl
 have hr1:∀(b:Nat) (sp:Nat→Bool) (hd:Bool),DataW.TrodAll enc P W' b sp hd f.resultTypes.toList ((Value.bool true).resultList f.resultTypes.size) (s.fn H (ds++[])).results []:=by intro b sp hd;rw[s1,hres];exact⟨[],[],⟨1,by simp[DataW.trod,htb,Value.cells]⟩,rfl,rfl⟩
 refine⟨ds,[],p++[],[],p,[],hW0,hr1 _ _ _,hargs _ hold,hvars _,World.keptBut_mono (λx hx=>⟨hx,?_⟩) (hb.frame (·∈p++[])),λ_=>?_⟩
 ·simpa using hx
 ·refine⟨?_,_,_,([]++p)++[],⟨[]++p,[],trodAll_append (hargs _ (λ_ _=>rfl)) (hr1 _ _ _),hvars _,rfl,?_,?_⟩,?_⟩
  ·intro j t r hj hv;rw[hres]at hj hv
   match j,hj,hv with
   |0,hj,hv=>simp[Value.resultList]at hj hv;subst hj;subst hv;exact okWide_bool_mk htb true
  ·intro b off hp;have hin:MemPlace.cell b off∈p:=by simpa using hp
   rw[hb.frozen (hlt _ hin)];exact hz b off (by simpa using hin)
  ·intro ha;cases ha
  ·intro x hx _;simpa using hx
theorem law_contract(ok:EnvOk E)(hl:laidOutB E.P=true){f:FuncId}{fn:Func}{run:List AV→a02→Option (AV×a02)}(hfy:f≠yId)(hf:b0d E f run){m:Nat}
 (hread:(fn.params.toList.all (a4z E m))=true)(hrun:∀args,TypAs E m fn.params.toList args→∃H',run args []=some (.bool true,H'))
 {s:ChangeSpec}(hvs:s.vars=[]){n:Nat}(hn:fn.params.toList.length=n)
 (hs:∀ds:List (DataW H),ds.length=n→(s.fn H ds).results=[.lit (.bool true)]∧(s.fn H ds).args=ds∧(s.fn H ds).vars=[]){tb:TypeId}(hres:fn.resultTypes = #[tb])(htb:E.P.underlying tb=some .bool)
 (hpar:(fn.params.toList.all λt=>E.P.readableRec t&&decide (t<E.P.types.size))=true)
 (W:World)(base:Nat)(args:Array Value)(ds gs:List (DataW H))(before:List MemPlace)
 (hval:∀(j:Nat) t v,fn.params[j]?=some t→args[j]?=some v→Value.okWide E.P W .any base t v)
 (hW:DataW.Whole enc E.P fn.params.toList s.vars false W args.toList ds gs before)(hG:Holds E W) :
 Calls E.P f args W λe W'=>∃v,e = .returned v∧s.post enc E.P fn false true false false W args v W':=by
 have hA:=hW;obtain⟨p,q,hA,_⟩:=hA;obtain⟨avs,h1,h2⟩:=d15 (b0:=base) ok (n:=m) fn.params.toList args.toList ds p hA (λj t v ht hv=>hval j t v (by simpa using ht) (by simpa using hv)) hread;obtain⟨H',hr⟩:=hrun avs h2;have:=d27 hfy hf hr hG h1;rw[Array.toArray_toList]at this;refine this.mono ?_
 rintro e W' ⟨rfl,hb⟩
 exact⟨_,rfl,d3h hl hvs hn hs hres htb hpar hW hb⟩
end
end Go.Ax
/- AxSem: what a call comes to, a3t fuel for the calls: a function 'sem', closed under running a body over itself. No condition. -/
namespace Go.Ax
abbrev CallF:=FuncId→List AV→a02→Option (AV×a02)
def CallF.le(c c':CallF):Prop:=∀g a H r,c g a H=some r→c' g a H=some r
theorem a87{r r':List AV→a02→Option (AV×a02)}(h:∀a H x,r a H=some x→r' a H=some x){args:List AV}{H:a02}{x:AV×a02×List Nat}
 (hc:a2h r args H=some x):a2h r' args H=some x:=by
 unfold a2h at hc⊢;simp only at hc⊢;rw[cond_eq_ite]at hc⊢;split at hc
 case isFalse=>cases hc
 rename_i h1;rw[if_pos h1];split at hc
 case h_2=>cases hc
 rename_i v H1 hr;rw[h _ _ _ hr];exact hc
theorem b9v{r r':List AV→a02→Option (AV×a02)}(h:∀a H x,r a H=some x→r' a H=some x){args:List AV}{H:a02}{x:AV×a02×List Nat}
 (hc:a80 r args H=some x):a80 r' args H=some x:=by
 unfold a80 at hc⊢;split at hc
 case h_2=>cases hc
 rename_i args' h1;split at hc
 case h_2=>cases hc
 rename_i v H1 hr;rw[h _ _ _ hr];exact hc
section
variable {E:Env}{draw:Bool}{N:Nat}{c c':CallF}(hc:CallF.le c c')
include hc
theorem c6e{f:AV}{args:List AV}{H:a02}{x:AV×a02×List Nat}(h:a0a E draw c f args H=some x):a0a E draw c' f args H=some x:=by
 unfold a0a at h⊢;split at h
 case h_3=>cases h
 case h_2=>
  split at h
  case h_2=>cases h
  rename_i v H' σ hr;rw[a87 (λa H x=>hc yId a H x) hr];exact h
 rename_i g fs cs;rw[cond_eq_ite]at h⊢;split at h
 ·rename_i h1;rw[if_pos h1];rw[cond_eq_ite]at h⊢;split at h
  ·rename_i h2;rw[if_pos h2];exact b9v (λa H x=>hc g a H x) h
  ·rename_i h2;rw[if_neg h2];exact h
 ·rename_i h1;rw[if_neg h1];rw[cond_eq_ite]at h⊢;split at h
  case isFalse=>cases h
  rename_i h2;rw[if_pos h2];split at h
  case h_2=>cases h
  rename_i v H' σ hr;rw[a87 (λa H x=>hc g a H x) hr];exact h
theorem c19{F:Frm}{H:a02}{op:Op}{x:AV×a02×LogE}(h:a0q E draw c F H op=some x):a0q E draw c' F H op=some x:=by
 unfold a0q at h⊢;split at h
 ·split at h
  case h_2=>cases h
  rename_i v H' σ hr;rw[c6e hc hr];exact h
 ·exact h
theorem b2r{R:Type}{all:List Oper}{k k':Frm→a02→Option R}(hk:∀F H r,k F H=some r→k' F H=some r):∀(ops:List Oper) (log:List LogE) (F:Frm) (H:a02) {r:R},
 a2i E draw N c all ops log F H k=some r→a2i E draw N c' all ops log F H k'=some r:=by
 intro ops
 induction ops with
 |nil=>
  intro log F H r h;unfold a2i at h⊢;rw[cond_eq_ite]at h⊢;split at h
  case isFalse=>cases h
  rename_i h1;rw[if_pos h1];exact hk _ _ _ h
 |cons o rest ih=>
  have step:∀(log:List LogE) (F F':Frm) (H:a02) (op:Op) (r:R),(match a0q E draw c F H op with
   |some (v,H',l)=>a2i E draw N c all rest (l::log) (a3i F' o.dst v) H' k
   |none=>none)=some r→(match a0q E draw c' F H op with
   |some (v,H',l)=>a2i E draw N c' all rest (l::log) (a3i F' o.dst v) H' k'
   |none=>none)=some r:=by
   intro log F F' H op r h;split at h
   case h_2=>cases h
   rename_i v H' l hs;rw[c19 hc hs];exact ih _ _ _ h
  intro log F H r h;unfold a2i at h⊢;rw[cond_eq_ite]at h⊢;split at h
  case isFalse=>cases h
  rename_i h1;rw[if_pos h1];split at h
  ·exact step _ _ _ _ _ _ h
  ·rename_i j want hg;split at h
   ·cases h
   ·rename_i d hd;split at h
    ·rename_i b hb;rw[cond_eq_ite]at h⊢;split at h
     ·rename_i hbt;rw[if_pos hbt];rw[cond_eq_ite]at h⊢;split at h
      ·rename_i hw;rw[if_pos hw];exact step _ _ _ _ _ _ h
      ·rename_i hw;rw[if_neg hw];exact ih _ _ _ h
     ·rename_i hbt;rw[if_neg hbt];rw[cond_eq_ite]at h⊢;split at h
      ·rename_i hw;rw[if_pos hw];exact ih _ _ _ h
      ·rename_i hw;rw[if_neg hw];exact step _ _ _ _ _ _ h
    ·exact ih _ _ _ h
    ·cases h
omit hc in
theorem b60{m0:Nat}{keep:List Nat}{R:Type}{b b':Frm→a02→(AExit→Frm→a02→Option R)→Option R}
 (hb:∀F H (k k':AExit→Frm→a02→Option R),(∀e F H r,k e F H=some r→k' e F H=some r)→∀r,b F H k=some r→b' F H k'=some r):∀(n n':Nat),n≤n'→∀(F:Frm) (H:a02) (k k':AExit→Frm→a02→Option R),(∀e F H r,k e F H=some r→k' e F H=some r)→∀{r:R},
 b1w m0 keep b n F H k=some r→b1w m0 keep b' n' F H k'=some r
 |0,_,_,F,H,k,k',_,r,h=>by simp[b1w]at h
 |n+1,0,hn,F,H,k,k',_,r,h=>by omega
 |n+1,n'+1,hn,F,H,k,k',hk,r,h=>by
  unfold b1w at h⊢;simp only at h⊢;rw[cond_eq_ite]at h⊢;split at h
  case isFalse=>cases h
  rename_i h1;rw[if_pos h1];refine hb _ _ _ _ ?_ r h;intro e F H r h;cases e with
  |normal=>exact b60 hb n n' (by omega) F H k k' hk h
  |exit id=>exact hk _ _ _ _ h
  |ret=>exact hk _ _ _ _ h
omit hc in
theorem b2t{m0 it:Nat}{keep:List Nat}{ks acc:List Int}{b b':Frm→a02→(AExit→Frm→a02→Option R3)→Option R3}
 (hb:∀F H (k k':AExit→Frm→a02→Option R3),(∀e F H r,k e F H=some r→k' e F H=some r)→∀r,b F H k=some r→b' F H k'=some r){a:Option Int}{F:Frm}{H:a02}{x:R3}(h:b1f m0 it keep ks acc b a F H=some x):b1f m0 it keep ks acc b' a F H=some x:=by
 unfold b1f at h⊢;split at h
 case h_2=>cases h
 rename_i F1 H1 hg;split at h
 case h_2=>cases h
 rename_i H2 ha;exact hb _ _ _ _ (λ_ _ _ _ h=>h) _ h
omit hc in
theorem b30{m0 it:Nat}{keep:List Nat}{ks:List Int}{b b':Frm→a02→(AExit→Frm→a02→Option R3)→Option R3}
 (hb:∀F H (k k':AExit→Frm→a02→Option R3),(∀e F H r,k e F H=some r→k' e F H=some r)→∀r,b F H k=some r→b' F H k'=some r):∀{o acc:List Int} {F:Frm} {H:a02} {x:R3},a5a m0 it keep ks b acc o F H=some x→a5a m0 it keep ks b' acc o F H=some x
 | [],acc,F,H,x,h=>by
  unfold a5a at h⊢;split at h
  ·cases h
  ·rename_i e F' H' hne hr;rw[b2t hb hr];cases e with
   |normal=>exact(hne rfl).elim
   |exit id=>exact h
   |ret=>exact h
  ·cases h
 |i::o,acc,F,H,x,h=>by
  unfold a5a at h⊢;split at h
  case h_2=>cases h
  rename_i F' H' hr;rw[b2t hb hr];exact b30 hb h
omit hc in
theorem c5d{m0 it:Nat}{keep:List Nat}{R:Type}{b b':Frm→a02→(AExit→Frm→a02→Option R3)→Option R3}
 (hb:∀F H (k k':AExit→Frm→a02→Option R3),(∀e F H r,k e F H=some r→k' e F H=some r)→∀r,b F H k=some r→b' F H k'=some r){F:Frm}{H:a02}{k k':AExit→Frm→a02→Option R}(hk:∀e F H r,k e F H=some r→k' e F H=some r){r:R}
 (h:c5e m0 it keep b F H k=some r):c5e m0 it keep b' F H k'=some r:=by
 unfold c5e at h⊢;split at h
 case h_2=>cases h
 rename_i ks hks;split at h
 case h_2=>cases h
 rename_i r0 rs hmap;rw[cond_eq_ite]at h;split at h
 case isFalse=>cases h
 rename_i hall;have hm:(b5u ks).map (λo=>a5a m0 it keep ks b' [] o F H)=some r0::rs:=by
  rw[←hmap];refine List.map_congr_left λo ho=>?_;have hm:=List.mem_map_of_mem (f:=λo=>a5a m0 it keep ks b [] o F H) ho;rw[hmap]at hm;have he:a5a m0 it keep ks b [] o F H=some r0:=by
   rcases List.mem_cons.1 hm with h|h
   ·exact h
   ·exact c3b (List.all_eq_true.1 hall _ h)
  rw[he];exact b30 hb he
 rw[hm];simp only[hall,cond_true];exact hk _ _ _ _ h
theorem a60{m0 lf lf':Nat}(hl:lf≤lf'){keep:Nat→List Nat}:∀(code:Code) {R:Type} (cur:Nat) (F:Frm) (H:a02) (k k':AExit→Frm→a02→Option R),(∀e F H r,k e F H=some r→k' e F H=some r)→∀{r:R},
 a3p E m0 N keep c lf cur code F H k=some r→a3p E m0 N keep c' lf' cur code F H k'=some r:=by
 intro code
 induction code with
 |skip=>intro R cur F H k k' hk r h;unfold a3p at h⊢;exact hk _ _ _ _ h
 |label l=>intro R cur F H k k' hk r h;unfold a3p at h⊢;exact hk _ _ _ _ h
 |exit id=>intro R cur F H k k' hk r h;unfold a3p at h⊢;exact hk _ _ _ _ h
 |ret=>intro R cur F H k k' hk r h;unfold a3p at h⊢;exact hk _ _ _ _ h
 |region id ops draw=>
  intro R cur F H k k' hk r h;unfold a3p at h⊢;cases hn:d2x ops.toList with
  |none=>rw[hn]at h;exact b2r hc (λF H r h=>hk _ _ _ _ h) _ _ _ _ h
  |some x=>
   obtain⟨it,nx,rest⟩:=x;rw[hn]at h;simp only[cond_eq_ite]at h⊢;split at h
   case isTrue=>cases h
   rename_i h1;rw[if_neg h1];split at h
   case h_2=>cases h
   rename_i v H' hx;exact b2r hc (λF H r h=>hk _ _ _ _ h) _ _ _ _ h
 |seq x y ihx ihy=>
  intro R cur F H k k' hk r h;unfold a3p at h⊢;refine ihx _ _ _ _ _ ?_ h;intro e F H r h;cases e with
  |normal=>exact ihy _ _ _ _ _ hk h
  |exit id=>exact hk _ _ _ _ h
  |ret=>exact hk _ _ _ _ h
 |cond x y z ihy ihz=>
  intro R cur F H k k' hk r h;unfold a3p at h⊢;split at h
  case h_2=>cases h
  rename_i t ht;simp only[cond_eq_ite]at h⊢;split at h
  ·rename_i h1;rw[if_pos h1];exact ihy _ _ _ _ _ hk h
  ·rename_i h1;rw[if_neg h1];exact ihz _ _ _ _ _ hk h
 |block id b ih=>
  intro R cur F H k k' hk r h;unfold a3p at h⊢;refine ih _ _ _ _ _ ?_ h;intro e F H r h;cases e with
  |normal=>exact hk _ _ _ _ h
  |exit id'=>
   simp only[cond_eq_ite]at h⊢;split at h
   ·rename_i h1;rw[if_pos h1];exact hk _ _ _ _ h
   ·rename_i h1;rw[if_neg h1];exact hk _ _ _ _ h
  |ret=>exact hk _ _ _ _ h
 |loop b ih=>
  intro R cur F H k k' hk r h;unfold a3p at h⊢;cases hn:a6n b with
  |some it=>rw[hn]at h;exact c5d (λF H k k' hk r h=>ih _ F H k k' hk h) hk h
  |none=>
  rw[hn]at h;dsimp only at h⊢;refine b60 (λF H k k' hk r h=>ih _ F H k k' hk h) _ _ hl F H _ _ ?_ h;intro e F H r h;rw[cond_eq_ite]at h⊢;split at h
  ·rename_i h1;rw[if_pos h1];exact hk _ _ _ _ h
  ·rename_i h1;rw[if_neg h1];exact hk _ _ _ _ h
 |scope b ih=>intro R cur F H k k' hk r h;unfold a3p at h⊢;exact ih _ _ _ _ _ hk h
 |rangeFunc f ps as b=>
  intro R cur F H k k' hk r h;unfold a3p at h⊢;split at h
  case h_2=>cases h
  rename_i g fs cs y _ _;rw[cond_eq_ite]at h⊢;split at h
  case isFalse=>cases h
  rename_i h1;rw[if_pos h1];split at h
  case h_2=>cases h
  rename_i v H2 σ hr;rw[a87 (λa H x=>hc g a H x) hr];dsimp only;split at h
  ·exact hk _ _ _ _ h
  ·exact hk _ _ _ _ h
  ·exact hk _ _ _ _ h
  ·cases h
 |_=>intro R cur F H k k' hk r h;simp[a3p]at h
theorem b7b{lf lf':Nat}(hl:lf≤lf'){args:List AV}{H:a02}{r:AV×a02}(h:a8h E c lf args H=some r):a8h E c' lf' args H=some r:=by
 unfold a8h at h⊢;split at h
 case h_2=>cases h
 rename_i b vs;split at h
 case h_2=>cases h
 rename_i y F hb;split at h
 case h_2=>cases h
 rename_i ri hri;rw[cond_eq_ite]at h⊢;split at h
 case isFalse=>cases h
 rename_i h1;rw[if_pos h1];refine a60 hc hl _ _ _ _ _ _ ?_ h;intro e F H r h;cases e with
 |normal=>
  dsimp only at h⊢;split at h
  case h_2=>cases h
  rename_i H1 hy;exact a60 hc hl _ _ _ _ _ _ (λ_ _ _ _ h=>h) h
 |exit id=>exact h
 |ret=>exact h
theorem d1i{m0 lf lf':Nat}(hl:lf≤lf'){keep:Nat→List Nat}:∀(code:Code) {R:Type} (cur:Nat) (F:Frm) (H:a02) (k k':AExit→Frm→a02→Option R),(∀e F H r,k e F H=some r→k' e F H=some r)→∀{r:R},
 e05 E m0 N keep c lf cur code F H k=some r→e05 E m0 N keep c' lf' cur code F H k'=some r:=by
 intro code
 induction code with
 |seq x y ihx ihy=>
  intro R cur F H k k' hk r h;unfold e05 at h⊢;refine ihx _ _ _ _ _ ?_ h;intro e F H r h;cases e with
  |normal=>exact ihy _ _ _ _ _ hk h
  |exit id=>exact hk _ _ _ _ h
  |ret=>exact hk _ _ _ _ h
 |_=>intro R cur F H k k' hk r h;exact a60 hc hl _ _ _ _ _ _ hk h
theorem d1j{m0 lf lf' j:Nat}(hl:lf≤lf'){keep:Nat→List Nat}:∀(n:Nat) (code:Code) {R:Type} (cur:Nat) (F:Frm) (H:a02) (k k':AExit→Frm→a02→Option R),(∀e F H r,k e F H=some r→k' e F H=some r)→∀{r:R},
 e1q E m0 N keep c lf j n cur code F H k=some r→e1q E m0 N keep c' lf' j n cur code F H k'=some r:=by
 intro n
 induction n with
 |zero=>intro code R cur F H k k' hk r h;exact a60 hc hl _ _ _ _ _ _ hk h
 |succ n ih=>
  intro code;cases code with
  |seq x y=>
   intro R cur F H k k' hk r h;refine a60 hc hl x cur F H _ _ ?_ h;intro e F H r h;cases e with
   |normal=>exact ih _ _ _ _ _ _ hk h
   |exit id=>exact hk _ _ _ _ h
   |ret=>exact hk _ _ _ _ h
  |_=>intro R cur F H k k' hk r h;exact a60 hc hl _ _ _ _ _ _ hk h
theorem b0l{lf lf':Nat}(hl:lf≤lf'){g:FuncId}{args:List AV}{H:a02}{r:AV×a02}(h:a9q E c lf g args H=some r):a9q E c' lf' g args H=some r:=by
 unfold a9q at h⊢;split at h
 ·exact h
 split at h
 ·skip
  rw[cond_eq_ite]at h⊢;split at h
  case isFalse=>cases h
  rename_i h1;rw[if_pos h1];exact b7b hc hl h
 rename_i i hi;rw[cond_eq_ite]at h⊢;split at h
 case isFalse=>cases h
 rename_i h1;rw[if_pos h1];unfold e1r at h⊢;cases hz:E.zf g with
 |true=>
  rw[hz,cond_true]at h;rw[cond_true];cases hzn:E.zn g with
  |zero=>rw[hzn]at h;exact d1i hc hl _ _ _ _ _ _ (λ_ _ _ _ h=>h) h
  |succ n=>rw[hzn]at h;exact d1j hc hl _ _ _ _ _ _ _ (λ_ _ _ _ h=>h) h
 |false=>rw[hz,cond_false]at h;rw[cond_false];exact a60 hc hl _ _ _ _ _ _ (λ_ _ _ _ h=>h) h
end
inductive Der(E:Env)(M:List Fact):FuncId→List AV→a02→AV×a02→Prop
 |run (g:FuncId) (args:List AV) (H:a02) (r:AV×a02) (c:CallF) (lf:Nat) (hc:∀g a H r,c g a H=some r→Der E M g a H r)
  (hno:∀x∈M,x.g≠g) (h:a9q E c lf g args H=some r):Der E M g args H r
 |fact (x:Fact) (hx:x∈M) (hfirst:∀y∈M,y.g=x.g→y.args=x.args→y.v=x.v):Der E M x.g x.args [] (x.v,[])
open Classical in
noncomputable def e6b(c c':CallF):CallF:=λg a H=>match c g a H with|some r=>some r|none=>c' g a H
theorem Der.one{E:Env}{M:List Fact}{g:FuncId}{args:List AV}{H:a02}{r r':AV×a02}(h:Der E M g args H r)(h':Der E M g args H r'):r=r':=by
 induction h generalizing r' with
 |run g args H r c lf hc hno h ih=>
  cases h' with
  |run _ _ _ _ c' lf' hc' hno' h'=>
   have l1:CallF.le c (e6b c c'):=by intro g a H r h;simp[e6b,h]
   have l2:CallF.le c' (e6b c c'):=by
    intro g a H r h;unfold e6b;cases hcc:c g a H with
    |none=>exact h
    |some s=>exact congrArg some (ih g a H s hcc (hc' g a H r h))
   have e1:=b0l l1 (Nat.le_max_left lf lf') h;have e2:=b0l l2 (Nat.le_max_right lf lf') h';exact z9o (e1.symm.trans e2)
  |fact x hx=>exact absurd rfl (hno x hx)
 |fact x hx hf=>
  generalize hg:x.g=g at h';generalize ha:x.args=args at h';generalize hH:([]:a02)=H at h';cases h' with
  |run _ _ _ _ c' lf' hc' hno' h'=>exact absurd hg (hno' x hx)
  |fact y hy hf'=>rw[hf y hy hg.symm ha.symm]
theorem Der.ok{E:Env}(ok:EnvOk E)(hdr:DrOk E){M:List Fact}(hM:∀x∈M,d6w E x){g:FuncId}{args:List AV}{H:a02}{r:AV×a02}(h:Der E M g args H r) :
 b0d E g (λa H'=>open Classical in if a=args∧H'=H then some r else none):=by
 induction h with
 |run g args H r c lf hc hno h ih=>
  have hcall:a3j E c:=by intro g a H v H' hr;have:=ih g a H (v,H') hr;exact this a H v H' (by simp)
  intro a H' v H'' hr;dsimp only at hr;split at hr
  ·rename_i hh;obtain⟨rfl,rfl⟩:=hh;cases hr;exact d2l ok hdr hcall lf g a H' v H'' h
  ·cases hr
 |fact x hx hf=>
  intro a H' v H'' hr;dsimp only at hr;split at hr
  ·rename_i hh;obtain⟨rfl,rfl⟩:=hh;cases hr;intro I K ρ w cargs h1 h2 h3;exact hM x hx I K ρ w cargs h1 h2 h3
  ·cases hr
open Classical in
noncomputable def sem(E:Env)(M:List Fact):CallF:=λg args H=>if h:∃r,Der E M g args H r then some h.choose else none
section
variable {E:Env}{M:List Fact}
theorem c1h{g:FuncId}{args:List AV}{H:a02}{r:AV×a02}:sem E M g args H=some r↔Der E M g args H r:=by
 unfold sem;constructor
 ·intro h;split at h
  ·rename_i hh;cases h;exact hh.choose_spec
  ·cases h
 ·intro h;have hh:∃r,Der E M g args H r:=⟨r,h⟩
  rw[dif_pos hh];exact congrArg some (Der.one hh.choose_spec h)
theorem b75{g:FuncId}{args:List AV}{H:a02}{r:AV×a02}(hno:∀x∈M,x.g≠g)(lf:Nat)(h:a9q E (sem E M) lf g args H=some r):sem E M g args H=some r:=c1h.2 (.run g args H r (sem E M) lf (λ_ _ _ _ h=>c1h.1 h) hno h)
theorem sem_ok(ok:EnvOk E)(hdr:DrOk E)(hM:∀x∈M,d6w E x):a3j E (sem E M):=by intro g args H v H' h;exact(Der.ok ok hdr hM (c1h.1 h)) args H v H' (by simp)
end
end Go.Ax
/- AxEv: runs of statements in direct style: what a statement comes to, for a42 loop fuel that is great enough. -/
namespace Go.Ax
def d6a{α β:Type}(x:Option α)(f:α→β)(d:β):β:=match x with|some a=>f a|none=>d
def a0g{α β:Type}(x:Option α)(f:α→Option β):Option β:=match x with|some a=>f a|none=>none
@[go_sem] theorem e0z{α β:Type}(a:α)(f:α→Option β):a0g (some a) f=f a:=by rfl
@[congr] theorem d88{α β:Type}{x y:Option α}{f:α→Option β}(h:x=y):a0g x f=a0g y f:=by rw[h]
def a8w(E:Env)(draw:Bool)(N:Nat)(call:CallF)(all:List Oper):List Oper→List LogE→Frm→a02→Option (Frm×a02×List LogE)
 | [],log,F,H=>some (F,H,log)
 |o::rest,log,F,H=>
  bif a6s N o.dst then
   match o.guard with
   |none=>a0g (a0q E draw call F H o.op) λx=>a8w E draw N call all rest (x.2.2::log) (a3i F o.dst x.1) x.2.1
   |some (j,want)=>match a2z all j with
    |none=>none
    |some d=>match a33 F d with
     |.bool b=>bif b then
      (bif want then a0g (a0q E draw call (a3i F (some d) (.bool true)) H o.op) λx=>a8w E draw N call all rest (x.2.2::log) (a3i (a3i F (some d) (.bool true)) o.dst x.1) x.2.1
      else a8w E draw N call all rest (⟨[],[]⟩::log) (a3i (a3i F (some d) (.bool true)) o.dst (.tuple [])) H)
      else
       (bif want then a8w E draw N call all rest (⟨[],[]⟩::log) (a3i (a3i F (some d) (.bool false)) o.dst (.tuple [])) H
       else a0g (a0q E draw call (a3i F (some d) (.bool false)) H o.op) λx=>a8w E draw N call all rest (x.2.2::log) (a3i (a3i F (some d) (.bool false)) o.dst x.1) x.2.1)
     |.tuple []=>a8w E draw N call all rest (⟨[],[]⟩::log) (a3i F o.dst (.tuple [])) H
     |_=>none
  else none
theorem c1j{E:Env}{draw:Bool}{N:Nat}{call:CallF}{all:List Oper}{R:Type}{k:Frm→a02→Option R}:∀(ops:List Oper) (log:List LogE) (F:Frm) (H:a02),
 a2i E draw N call all ops log F H k=(match a8w E draw N call all ops log F H with|some (F',H',log')=>(bif !draw||logOk all log'.length log' then k F' H' else none)|none=>none):=by
 intro ops
 induction ops with
 |nil=>intro log F H;rfl
 |cons o rest ih=>
  intro log F H;have step:∀(F1 F2:Frm),(match a0q E draw call F1 H o.op with
   |some (v,H',l)=>a2i E draw N call all rest (l::log) (a3i F2 o.dst v) H' k
   |none=>none)=(match a0g (a0q E draw call F1 H o.op) λx=>a8w E draw N call all rest (x.2.2::log) (a3i F2 o.dst x.1) x.2.1 with|some (F',H',log')=>(bif !draw||logOk all log'.length log' then k F' H' else none)|none=>none):=by
   intro F1 F2;cases a0q E draw call F1 H o.op with
   |none=>rfl
   |some x=>exact ih _ _ _
  obtain⟨dst,op,ty,pos,after,guard⟩:=o;unfold a2i a8w;cases hd:a6s N dst with
  |false=>rfl
  |true=>
   cases guard with
   |none=>exact step F F
   |some g=>
    obtain⟨j,want⟩:=g;simp only[cond_true];cases hs:a2z all j with
    |none=>rfl
    |some d=>
     simp only;cases hv:a33 F d with
     |bool b=>cases b<;>cases want<;>simp only[cond_true,cond_false]<;>first|exact step _ _|exact ih _ _ _
     |tuple vs=>cases vs with
      |nil=>exact ih _ _ _
      |cons a r=>rfl
     |_=>rfl
structure Cx where
 E:Env
 M:List Fact
 m0:Nat
 N:Nat
 keep:Nat→List Nat
 cur:Nat
def Ev(x:Cx)(c:Code)(F:Frm)(H:a02)(r:AExit×Frm×a02):Prop:=∃n0,∀lf,n0≤lf→∀(R:Type) (k:AExit→Frm→a02→Option R),a3p x.E x.m0 x.N x.keep (sem x.E x.M) lf x.cur c F H k=k r.1 r.2.1 r.2.2
section
variable {x:Cx}{F F1:Frm}{H H1:a02}{r:AExit×Frm×a02}
theorem Ev.skip:Ev x .skip F H (.normal,F,H):=⟨0,λ_ _ _ _=>rfl⟩
theorem Ev.label{l}:Ev x (.label l) F H (.normal,F,H):=⟨0,λ_ _ _ _=>rfl⟩
theorem Ev.leave{id}:Ev x (.exit id) F H (.exit id,F,H):=⟨0,λ_ _ _ _=>rfl⟩
theorem Ev.ret:Ev x .ret F H (.ret,F,H):=⟨0,λ_ _ _ _=>rfl⟩
theorem d8a{E:Env}{draw:Bool}{N:Nat}{call:CallF}{all ops:List Oper}{log:List LogE}{F:Frm}{H:a02}{r:Frm×a02×List LogE}(h:a8w E draw N call all ops log F H=some r):d2x ops=none:=by
 unfold d2x;split
 ·rfl
 ·rename_i o rest;split
  ·rename_i it nx h1 h2 h3;obtain⟨d,op,ty,pos,after,guard⟩:=o;simp only at h1 h2 h3;subst h1 h2 h3;unfold a8w at h;have hs:a0q E draw call F H (.next (.tmp it) false)=none:=by
    have:aop E H.length (a01 H) (.next (.tmp it) false) (opv E F)=none:=by show c0m (a01 H) (opv E F (.tmp it)) false=none;unfold c0m;split<;>rfl
    unfold a0q;simp only[this]
   rw[cond_eq_ite]at h;split at h
   ·simp only[hs,a0g]at h;cases h
   ·cases h
  ·rfl
theorem Ev.region{id ops draw}{log:List LogE}(h:a8w x.E draw x.N (sem x.E x.M) ops.toList ops.toList [] F H=some (F1,H1,log))(hl:(!draw||logOk ops.toList log.length log)=true):Ev x (.region id ops draw) F H (.normal,F1,H1):=⟨0,λ_ _ R k=>by simp only[a3p,d8a h,c1j,h,hl,cond_true]⟩
theorem Ev.seq{a b}(h:Ev x a F H (.normal,F1,H1))(h2:Ev x b F1 H1 r):Ev x (.seq a b) F H r:=by obtain⟨n,h⟩:=h;obtain⟨m,h2⟩:=h2;exact⟨max n m,λlf hl R k=>by simp only[a3p];rw[h lf (by omega)];exact h2 lf (by omega) R k⟩
theorem Ev.seq_ret{a b}(h:Ev x a F H (.ret,F1,H1)):Ev x (.seq a b) F H (.ret,F1,H1):=by obtain⟨n,h⟩:=h;exact⟨n,λlf hl R k=>by simp only[a3p];rw[h lf hl]⟩
theorem Ev.seq_exit{a b id}(h:Ev x a F H (.exit id,F1,H1)):Ev x (.seq a b) F H (.exit id,F1,H1):=by obtain⟨n,h⟩:=h;exact⟨n,λlf hl R k=>by simp only[a3p];rw[h lf hl]⟩
theorem Ev.cond_t{c a b}(hc:opv x.E F c = .bool true)(h:Ev x a F H r):Ev x (.cond c a b) F H r:=by obtain⟨n,h⟩:=h;exact⟨n,λlf hl R k=>by simp only[a3p,hc,cond_true];exact h lf hl R k⟩
theorem Ev.cond_f{c a b}(hc:opv x.E F c = .bool false)(h:Ev x b F H r):Ev x (.cond c a b) F H r:=by obtain⟨n,h⟩:=h;exact⟨n,λlf hl R k=>by simp only[a3p,hc,cond_false];exact h lf hl R k⟩
theorem Ev.block{id b}(h:Ev { x with cur:=id } b F H (.normal,F1,H1)):Ev x (.block id b) F H (.normal,F1,H1):=by obtain⟨n,h⟩:=h;exact⟨n,λlf hl R k=>by simp only[a3p];rw[h lf hl]⟩
theorem Ev.block_ret{id b}(h:Ev { x with cur:=id } b F H (.ret,F1,H1)):Ev x (.block id b) F H (.ret,F1,H1):=by obtain⟨n,h⟩:=h;exact⟨n,λlf hl R k=>by simp only[a3p];rw[h lf hl]⟩
theorem Ev.block_exit{id b}(h:Ev { x with cur:=id } b F H (.exit id,F1,H1)):Ev x (.block id b) F H (.normal,F1,H1):=by obtain⟨n,h⟩:=h;exact⟨n,λlf hl R k=>by simp only[a3p];rw[h lf hl];simp⟩
theorem Ev.block_on{id id' b}(h:Ev { x with cur:=id } b F H (.exit id',F1,H1))(hne:(id'==id)=false):Ev x (.block id b) F H (.exit id',F1,H1):=by obtain⟨n,h⟩:=h;exact⟨n,λlf hl R k=>by simp only[a3p];rw[h lf hl];simp only[hne,cond_false]⟩
theorem Ev.scope{b}(h:Ev x b F H r):Ev x (.scope b) F H r:=by obtain⟨n,h⟩:=h;exact⟨n,λlf hl R k=>by simp only[a3p];exact h lf hl R k⟩
def EvL(x:Cx)(b:Code)(F:Frm)(H:a02)(r:AExit×Frm×a02):Prop:=
 ∃n0,∀lf,n0≤lf→∀n,n0≤n→∀(R:Type) (k:AExit→Frm→a02→Option R),
  b1w x.m0 (x.keep x.cur) (λF H k=>a3p x.E x.m0 x.N x.keep (sem x.E x.M) lf x.cur b F H k) n F H k=k r.1 r.2.1 r.2.2
theorem Ev.loop{b}(hx:a6n b=none)(hz:d08 (x.keep x.cur)=false)(h:EvL x b F H r):Ev x (.loop b) F H r:=by obtain⟨n,h⟩:=h;exact⟨n,λlf hl R k=>by simp only[a3p,hx,hz,cond_false];exact h lf hl lf hl R k⟩
theorem Ev.loopZ{b}{e:AExit}(hx:a6n b=none)(hz:d08 (x.keep x.cur)=true)(h:EvL x b F H (e,F1,H1)):Ev x (.loop b) F H (e,b82 (x.m0+c5v (x.keep x.cur)) H1 F1,b0e (x.m0+c5v (x.keep x.cur)) H1):=by obtain⟨n,h⟩:=h;exact⟨n,λlf hl R k=>by simp only[a3p,hx,hz,cond_true];exact h lf hl lf hl R _⟩
theorem c29{m0:Nat}{keep:List Nat}(hg:gcD m0 keep F H=some (F1,H1)) :
 (a4l (a8t m0 (a1r keep F) H)&&(a8t m0 (a1r keep F) H).all (λb=>Nat.ble m0 b)&&Nat.ble m0 H.length)=true∧b5m (b50 m0 (a8t m0 (a1r keep F) H)) (a1r keep F)=F1∧gcH m0 (a8t m0 (a1r keep F) H) H=H1:=by
 unfold gcD at hg;simp only[cond_eq_ite]at hg;split at hg
 case isFalse=>cases hg
 rename_i hc;cases hg;exact⟨hc,rfl,rfl⟩
theorem EvL.leave{b:Code}{F2:Frm}{H2:a02}{e:AExit}(hg:gcD x.m0 (x.keep x.cur) F H=some (F1,H1))(h:Ev x b F1 H1 (e,F2,H2))(he:e≠ .normal):EvL x b F H (e,F2,H2):=by
 obtain⟨n0,h⟩:=h;refine⟨n0+1,λlf hl n hn R k=>?_⟩;obtain⟨n,rfl⟩:∃l,n=l+1:=⟨n-1,by omega⟩
 obtain⟨h1,h2,h3⟩:=c29 hg;simp only[b1w,h1,h2,h3,cond_true];rw[h lf (by omega)];cases e with
 |normal=>exact absurd rfl he
 |exit id=>rfl
 |ret=>rfl
theorem EvL.again{b:Code}{F2:Frm}{H2:a02}(hg:gcD x.m0 (x.keep x.cur) F H=some (F1,H1))(h:Ev x b F1 H1 (.normal,F2,H2))(h':EvL x b F2 H2 r):EvL x b F H r:=by
 obtain⟨n0,h⟩:=h;obtain⟨m0,h'⟩:=h';refine⟨max n0 m0+1,λlf hl n hn R k=>?_⟩;obtain⟨n,rfl⟩:∃l,n=l+1:=⟨n-1,by omega⟩
 obtain⟨h1,h2,h3⟩:=c29 hg;simp only[b1w,h1,h2,h3,cond_true];rw[h lf (by omega)];exact h' lf (by omega) n (by omega) R k
theorem c37{E:Env}{M:List Fact}{g:FuncId}{args:List AV}{H:a02}{code:Code}{N:Nat}{results:List ResultVar}{e:AExit}{F':Frm}{H':a02}{vs:List AV}{v:AV}{H2:a02}
 (hfn:E.fn g=some ⟨code,N,results⟩)(hno:∀y∈M,y.g≠g)(hN:Nat.ble args.length N=true)(h:Ev ⟨E,M,H.length,N,E.keep g,0⟩ code (a3b 0 args) H (e,F',H'))(he:∀id,e≠ .exit id)
 (hr:a10 E F' H' results=some vs)(hfin:a26 (E.thaw g) H.length (a62 vs) H'=some (v,H2))(hp:E.prim g args=none)(hz:E.zf g=false)(hw:E.raw g=false):sem E M g args H=some (v,H2):=by
 obtain⟨n,h⟩:=h;refine b75 hno n ?_;unfold a9q;have hph:b9h E g args H=none:=by
  unfold b9h;cases H with
  |nil=>exact hp
  |cons a r=>rfl
 rw[hph,hfn];simp only;rw[hN];simp only[cond_true];unfold e1r;rw[hz];simp only[cond_false];refine(h n (Nat.le_refl _) _ _).trans ?_;cases e with
 |exit id=>exact absurd rfl (he id)
 |normal=>simp only[hr,c6u,hw];exact hfin
 |ret=>simp only[hr,c6u,hw];exact hfin
end
end Go.Ax
/- AxSimp: the evaluator's steps as rewrite rules. -/
namespace Go.Ax
section
variable {E:Env}{draw:Bool}{N:Nat}{call:CallF}{all rest:List Oper}{log:List LogE}{F:Frm}{H:a02}
@[go_sem] theorem e5x(s:Nat)(v:AV)(r:Frm):a33 ((s,v)::r) s=v:=by simp only[a33,d1r,cond_eq_ite,beq_self_eq_true,if_true]
@[go_sem] theorem e3t{s t:Nat}(h:(s=t)=False)(v:AV)(r:Frm):a33 ((s,v)::r) t=a33 r t:=by have:¬s=t:=λe=>h▸e;simp only[a33,d1r,cond_eq_ite,beq_iff_eq,if_neg this]
@[go_sem] theorem e2h(d:Nat)(v:AV):a3i F (some d) v=(d,v)::F:=by rfl
@[go_sem] theorem e2i(v:AV):a3i F none v=F:=by rfl
@[go_sem] theorem e82(t:Nat):opv E F (.tmp t)=a33 F t:=by rfl
@[go_sem] theorem e5k(f:Nat):opv E F (.func f) = .func (.func f) [] []:=by rfl
@[go_sem] theorem e5l(b:Bool):opv E F (.const (.bool b)) = .bool b:=by rfl
@[go_sem] theorem e84(k:IntKind)(n:Int):opv E F (.const (.int k n)) = .int k n:=by rfl
@[go_sem] theorem e0y:opv E F (.const (.pointer none)) = .nilptr:=by rfl
@[go_sem] theorem d69:opv E F (.const (.slice none 0 0)) = .nilslice:=by rfl
@[go_sem] theorem d86:opv E F (.const .nilFunc) = .nilfunc:=by rfl
@[go_sem] theorem e83(s:ByteArray):opv E F (.const (.string s)) = .str s.data.toList:=by rfl
@[go_sem] theorem e57:a8w E draw N call all [] log F H=some (F,H,log):=by rfl
@[go_sem] theorem e1d(d:Nat):a6s N (some d)=decide (d<N):=by rw[a6s,Bool.eq_iff_iff];simp[Nat.blt_eq]
@[go_sem] theorem e1e:a6s N none=true:=by rfl
theorem d7r(dst:Option Nat)(op:Op)(ty:TypeId)(pos:String)(after:Array Edge) :
 a8w E draw N call all ({ dst:=dst,op:=op,type:=ty,pos:=pos,after:=after,guard:=none }::rest) log F H =
  bif a6s N dst then a0g (a0q E draw call F H op) λx=>a8w E draw N call all rest (x.2.2::log) (a3i F dst x.1) x.2.1 else none:=by
 rfl
def d2k(E:Env)(draw:Bool)(N:Nat)(call:CallF)(all:List Oper)(dst:Option Nat)(op:Op)(rest:List Oper)(log:List LogE)(F:Frm)(H:a02)(d:Nat)(want:Bool):AV→Option (Frm×a02×List LogE)
 |.bool b=>bif b then
  (bif want then a0g (a0q E draw call (a3i F (some d) (.bool true)) H op) λx=>a8w E draw N call all rest (x.2.2::log) (a3i (a3i F (some d) (.bool true)) dst x.1) x.2.1
  else a8w E draw N call all rest (⟨[],[]⟩::log) (a3i (a3i F (some d) (.bool true)) dst (.tuple [])) H)
  else
   (bif want then a8w E draw N call all rest (⟨[],[]⟩::log) (a3i (a3i F (some d) (.bool false)) dst (.tuple [])) H
   else a0g (a0q E draw call (a3i F (some d) (.bool false)) H op) λx=>a8w E draw N call all rest (x.2.2::log) (a3i (a3i F (some d) (.bool false)) dst x.1) x.2.1)
 |.tuple []=>a8w E draw N call all rest (⟨[],[]⟩::log) (a3i F dst (.tuple [])) H
 |_=>none
theorem c51(dst:Option Nat)(op:Op)(ty:TypeId)(pos:String)(after:Array Edge)(j:Nat)(want:Bool) :
 a8w E draw N call all ({ dst:=dst,op:=op,type:=ty,pos:=pos,after:=after,guard:=some (j,want) }::rest) log F H =
  bif a6s N dst then a0g (a2z all j) λd=>d2k E draw N call all dst op rest log F H d want (a33 F d)else none:=by
 unfold a8w;cases a6s N dst with
 |false=>rfl
 |true=>
  simp only[cond_true];cases a2z all j with
  |none=>rfl
  |some d=>simp only[a0g];unfold d2k;rfl
section
variable {dst:Option Nat}{op:Op}{d:Nat}
theorem d7n:d2k E draw N call all dst op rest log F H d true (.bool true)=a0g (a0q E draw call ((d,.bool true)::F) H op) λx=>a8w E draw N call all rest (x.2.2::log) (a3i ((d,.bool true)::F) dst x.1) x.2.1:=by rfl
theorem d7o:d2k E draw N call all dst op rest log F H d true (.bool false)=a8w E draw N call all rest (⟨[],[]⟩::log) (a3i ((d,.bool false)::F) dst (.tuple [])) H:=by rfl
theorem d7p:d2k E draw N call all dst op rest log F H d false (.bool true)=a8w E draw N call all rest (⟨[],[]⟩::log) (a3i ((d,.bool true)::F) dst (.tuple [])) H:=by rfl
theorem d7q:d2k E draw N call all dst op rest log F H d false (.bool false)=a0g (a0q E draw call ((d,.bool false)::F) H op) λx=>a8w E draw N call all rest (x.2.2::log) (a3i ((d,.bool false)::F) dst x.1) x.2.1:=by rfl
theorem d7m{want:Bool}:d2k E draw N call all dst op rest log F H d want (.tuple [])=a8w E draw N call all rest (⟨[],[]⟩::log) (a3i F dst (.tuple [])) H:=by cases want<;>rfl
end
attribute [go_sem] d7r c51 d7n d7o d7p d7q d7m
@[congr] theorem e0s{dst:Option Nat}{op:Op}{d:Nat}{want:Bool}{v v':AV}(h:v=v'):d2k E draw N call all dst op rest log F H d want v=d2k E draw N call all dst op rest log F H d want v':=by rw[h]
/-! ### one operation -/
@[go_sem] theorem e7g(x:Operand):a0q E draw call F H (.move x)=some (opv E F x,H,⟨[],[]⟩):=by rfl
@[go_sem] theorem e2d(x:Operand):a0q E draw call F H (.assign x)=some (opv E F x,H,⟨[],[]⟩):=by rfl
theorem a1n{op:Op}{v:Option AV}(h:aop E H.length (a01 H) op (opv E F)=v.map (·,.none))(hs:a0q E draw call F H op=match aop E H.length (a01 H) op (opv E F)with
 |some (v,e)=>bif e.fits H.length then some (v,b14 H e,⟨a8b op (opv E F),e.keys H.length⟩)else none
 |none=>none):a0q E draw call F H op=a0g v λv=>some (v,H,⟨a8b op (opv E F),[]⟩):=by
 rw[hs,h];cases v<;>rfl
@[go_sem] theorem e9q(op:BinOp)(t:TypeId)(x y:Operand)(z):a0q E draw call F H (.binOp op t x y z)=a0g (b1b E op t (opv E F x) (opv E F y) (a4e x||a4e y)) λv=>some (v,H,⟨[],[]⟩):=a1n rfl rfl
@[go_sem] theorem f3r(op:UnOp)(t:TypeId)(x:Operand):a0q E draw call F H (.unOp op t x)=a0g (aun op (opv E F x)) λv=>some (v,H,⟨[],[]⟩):=a1n rfl rfl
@[go_sem] theorem e7i(s d:TypeId)(x:Operand):a0q E draw call F H (.convert s d x)=a0g (a6w E (a01 H) s d (opv E F x)) λv=>some (v,H,⟨a0i (opv E F x),[]⟩):=a1n rfl rfl
@[go_sem] theorem e7h(t:TypeId)(x:Operand):a0q E draw call F H (.load t x)=a0g (a64 E (a01 H) t (opv E F x)) λv=>some (v,H,⟨a0i (opv E F x),[]⟩):=a1n rfl rfl
@[go_sem] theorem e51(t:TypeId)(x:Operand)(lo hi mx:Option Operand):a0q E draw call F H (.slice t x lo hi mx)=a0g (a55 E (a01 H) t (opv E F x) (lo.map (opv E F)) (hi.map (opv E F)) (mx.map (opv E F))) λv=>some (v,H,⟨a0i (opv E F x),[]⟩):=a1n rfl rfl
@[go_sem] theorem d61(t:TypeId)(x:Operand)(f:Nat):a0q E draw call F H (.fieldAddr t x f)=a0g (a5k E t (opv E F x) f) λv=>some (v,H,⟨[],[]⟩):=a1n rfl rfl
@[go_sem] theorem e53(t:TypeId)(x:Operand)(f:Nat):a0q E draw call F H (.field t x f)=a0g (b6r E t (opv E F x) f) λv=>some (v,H,⟨[],[]⟩):=a1n rfl rfl
@[go_sem] theorem d60(t:TypeId)(x i:Operand):a0q E draw call F H (.indexAddr t x i)=a0g (a0w E (a01 H) t (opv E F x) (opv E F i)) λv=>some (v,H,⟨a0i (opv E F x),[]⟩):=a1n rfl rfl
@[go_sem] theorem e52(t:TypeId)(x i:Operand):a0q E draw call F H (.index t x i)=a0g (b6q E t (opv E F x) (opv E F i)) λv=>some (v,H,⟨[],[]⟩):=a1n rfl rfl
@[go_sem] theorem e54(t:TypeId)(ps:Array (Nat×Operand)):a0q E draw call F H (.build t ps)=a0g (b6v E t (ps.toList.map λp=>(p.1,opv E F p.2))) λv=>some (v,H,⟨[],[]⟩):=a1n rfl rfl
@[go_sem] theorem e2c(t:TypeId)(x k:Operand)(o:Bool):a0q E draw call F H (.lookup t x k o)=a0g (oor (a5z E (a01 H) t (opv E F x) (opv E F k) o) (b4p E (a01 H) t (opv E F x) (opv E F k) o)) λv=>some (v,H,⟨a0i (opv E F x),[]⟩):=a1n rfl rfl
@[go_sem] theorem d7d(fn:Fn)(first cap:Array Operand):a0q E draw call F H (.makeFunc fn first cap)=some (.func fn (first.toList.map (opv E F)) (cap.toList.map (opv E F)),H,⟨[],[]⟩):=by rfl
def c0l(c a b:AV):Option AV:=match c with|.bool t=>some (b54 t a b)|_=>none
@[go_sem] theorem e7f(c a b:Operand):a0q E draw call F H (.pick c a b)=a0g (c0l (opv E F c) (opv E F a) (opv E F b)) λv=>some (v,H,⟨[],[]⟩):=by refine a1n ?_ rfl;simp only[aop,c0l];cases opv E F c<;>rfl
@[go_sem] theorem d9y(t a b:Bool):c0l (.bool t) (.bool a) (.bool b)=some (.bool (bif t then a else b)):=by rfl
@[go_sem] theorem d9x(a b:AV):c0l (.bool true) a b=some (b54 true a b):=by rfl
@[go_sem] theorem d6p(a b:AV):c0l (.bool false) a b=some (b54 false a b):=by rfl
theorem d9v(a b:AV):b54 true a b=a:=by unfold b54;split<;>simp
theorem d9w(a b:AV):b54 false a b=b:=by unfold b54;split<;>simp
attribute [go_sem] d9v d9w
def a8a(x:AV):Option AV:=match x with
 |.ptr b i o=>some (.ptr b i o)
 |.iptr cs=>some (.iptr cs)
 |.func (.func f) fs cs=>some (.func (.func f) fs cs)
 |_=>none
attribute [go_sem] a8a
@[go_sem] theorem d7c(x:Operand):a0q E draw call F H (.nilCheck x)=a0g (a8a (opv E F x)) λv=>some (v,H,⟨[],[]⟩):=by
 refine a1n ?_ rfl;simp only[aop];generalize opv E F x=y;cases y<;>try rfl
 rename_i fn _ _;cases fn<;>rfl
def b8o(x:AV)(i:Nat):Option AV:=match x with|.tuple vs=>vs[i]?|_=>none
attribute [go_sem] b8o
@[go_sem] theorem e0p(t:Operand)(i:Nat):a0q E draw call F H (.extract t i)=a0g (b8o (opv E F t) i) λv=>some (v,H,⟨[],[]⟩):=by
 refine a1n ?_ rfl;simp only[aop,b8o];cases opv E F t with
 |tuple vs=>simp only;cases vs[i]?<;>rfl
 |_=>rfl
theorem a6y{op:Op}{v:Option (AV×Eff)}(h:aop E H.length (a01 H) op (opv E F)=v)(hs:a0q E draw call F H op=match aop E H.length (a01 H) op (opv E F)with
 |some (v,e)=>bif e.fits H.length then some (v,b14 H e,⟨a8b op (opv E F),e.keys H.length⟩)else none
 |none=>none){n:List Nat}(hn:a8b op (opv E F)=n):a0q E draw call F H op=a0g v λx=>bif x.2.fits H.length then some (x.1,b14 H x.2,⟨n,x.2.keys H.length⟩)else none:=by
 rw[hs,h];subst hn;cases v<;>rfl
@[go_sem] theorem e55(t:TypeId):a0q E draw call F H (.alloc t)=a0g (e00 E H.length t) λx=>bif x.2.fits H.length then some (x.1,b14 H x.2,⟨[],x.2.keys H.length⟩)else none:=a6y rfl rfl rfl
@[go_sem] theorem e9p(t:TypeId)(x:Operand):a0q E draw call F H (.box t x)=a0g (e0c H.length (opv E F x)) λx=>bif x.2.fits H.length then some (x.1,b14 H x.2,⟨[],x.2.keys H.length⟩)else none:=a6y rfl rfl rfl
@[go_sem] theorem e50(t:TypeId)(a x:Operand):a0q E draw call F H (.store t a x)=a0g (a7l E (a01 H) t (opv E F a) (opv E F x)) λe=>bif e.fits H.length then some (.tuple [],b14 H e,⟨a0i (opv E F a),e.keys H.length⟩)else none:=by refine(a6y (v:=(a7l E (a01 H) t (opv E F a) (opv E F x)).map (.tuple [],·)) rfl rfl rfl).trans ?_;cases a7l E (a01 H) t (opv E F a) (opv E F x)<;>rfl
@[go_sem] theorem d2d(t:TypeId)(n:Nat)(ps:Array (Nat×Operand)):a0q E draw call F H (.buildSlice t n ps)=a0g (a3c E H.length t n (ps.toList.map λp=>(p.1,opv E F p.2))) λx=>bif x.2.fits H.length then some (x.1,b14 H x.2,⟨[],x.2.keys H.length⟩)else none:=a6y rfl rfl rfl
@[go_sem] theorem d5z(t:TypeId)(l c:Operand):a0q E draw call F H (.makeSlice t l c)=a0g (a41 E H.length t (opv E F l) (opv E F c)) λx=>bif x.2.fits H.length then some (x.1,b14 H x.2,⟨[],x.2.keys H.length⟩)else none:=a6y rfl rfl rfl
@[go_sem] theorem e0o(t:TypeId):a0q E draw call F H (.makeMap t none)=some (.map H.length,H++[some (b35 E t)],⟨[],[H.length]⟩):=by rfl
@[go_sem] theorem d5y(t:TypeId)(m k x:Operand):a0q E draw call F H (.mapUpdate t m k x)=a0g (oor (a20 E (a01 H) t (opv E F m) (opv E F k) (opv E F x)) (b53 E (a01 H) t (opv E F m) (opv E F k) (opv E F x))) λe=>bif e.fits H.length then some (.tuple [],b14 H e,⟨a0i (opv E F m),e.keys H.length⟩)else none:=by refine(a6y (v:=(oor (a20 E (a01 H) t (opv E F m) (opv E F k) (opv E F x)) (b53 E (a01 H) t (opv E F m) (opv E F k) (opv E F x))).map (.tuple [],·)) rfl rfl rfl).trans ?_;cases oor (a20 E (a01 H) t (opv E F m) (opv E F k) (opv E F x)) (b53 E (a01 H) t (opv E F m) (opv E F k) (opv E F x))<;>rfl
@[go_sem] theorem e9n(x:Operand)(t:TypeId):a0q E draw call F H (.call { callee:=.builtin .len,args:=#[x],argTypes:=#[t] })=a0g (b8l E (a01 H) t (opv E F x)) λv=>some (v,H,⟨a0i (opv E F x),[]⟩):=by refine(a1n (v:=b8l E (a01 H) t (opv E F x)) rfl rfl).trans ?_;simp[a8b]
@[go_sem] theorem e9o(x:Operand)(t:TypeId):a0q E draw call F H (.call { callee:=.builtin .cap,args:=#[x],argTypes:=#[t] })=a0g (e09 E t (opv E F x)) λv=>some (v,H,⟨a0i (opv E F x),[]⟩):=by refine(a1n (v:=e09 E t (opv E F x)) rfl rfl).trans ?_;simp[a8b]
@[go_sem] theorem e9l(x:Operand)(xs:List Operand)(ts:Array TypeId):a0q E draw call F H (.call { callee:=.builtin .min,args:=⟨x::xs⟩,argTypes:=ts })=a0g (d6r (opv E F x) (xs.map (opv E F))) λv=>some (v,H,⟨(x::xs).flatMap λx=>a0i (opv E F x),[]⟩):=a1n rfl rfl
@[go_sem] theorem e9m(x:Operand)(xs:List Operand)(ts:Array TypeId):a0q E draw call F H (.call { callee:=.builtin .max,args:=⟨x::xs⟩,argTypes:=ts })=a0g (d5e (opv E F x) (xs.map (opv E F))) λv=>some (v,H,⟨(x::xs).flatMap λx=>a0i (opv E F x),[]⟩):=a1n rfl rfl
@[go_sem] theorem e2e(x y:Operand)(t u:TypeId):a0q E draw call F H (.call { callee:=.builtin .append,args:=#[x,y],argTypes:=#[t,u] })=a0g (oor (a4i E (a01 H) H.length t u (opv E F x) (opv E F y)) (a2w E H.length t u (opv E F x) (opv E F y))) λz=>bif z.2.fits H.length then some (z.1,b14 H z.2,⟨a0i (opv E F x)++a0i (opv E F y),z.2.keys H.length⟩)else none:=a6y rfl rfl (by simp[a8b])
@[go_sem] theorem e1t{E:Env}{n:Nat}{t u:TypeId}{x:AV}{b off len:Nat}{cap:Option Nat}:a2w E n t u (.slice b off len cap) x=none:=by unfold a2w;rfl
@[go_sem] theorem e0f{E:Env}{n:Nat}{t u:TypeId}{b off len:Nat}{cap:Option Nat}:a2w E n t u .nilslice (.slice b off len cap)=none:=by unfold a2w;rfl
@[go_sem] theorem e5n{α:Type}(x:Option α):oor x none=x:=by cases x<;>rfl
@[go_sem] theorem e5m{α:Type}(x:α)(y:Option α):oor (some x) y=some x:=by rfl
@[go_sem] theorem d7s{g:FuncId}{fs cs:List AV}{H H':a02}{σ:List Nat}:a6l E (.func (.func g) fs cs) H H' σ=(E.ro g&&σ.all λb=>b1v (a01 H b) (a01 H' b)):=by rfl
@[go_sem] theorem e4c{α:Type}(b:Bool)(x:α):(bif b then x else x)=x:=by cases b<;>rfl
@[go_sem] theorem e13(ro:Bool)(σ:List Nat)(n:Nat):b4x ro σ n n=bif ro then[]else σ:=by unfold b4x;rw[cond_eq_ite,if_pos (by rw[Nat.beq_eq])]
attribute [go_sem] List.range'_succ List.range'_zero
@[go_sem] theorem e7j(f:Operand)(args:Array Operand)(ts:Array TypeId):a0q E draw call F H (.call { callee:=.value f,args:=args,argTypes:=ts })=a0g (a0a E draw call (opv E F f) (args.toList.map (opv E F)) H) λx=>some (x.1,x.2.1,⟨x.2.2,b4x (a6l E (opv E F f) H x.2.1 x.2.2) x.2.2 H.length x.2.1.length⟩):=by simp only[a0q];cases a0a E draw call (opv E F f) (args.toList.map (opv E F)) H<;>rfl
end
/-! ### tables read by type -/
section
variable (E:Env)
def a61(t:TypeId):Option Bool:=(E.und t).map a28
def a4s(t:TypeId)(f:Nat):Option (Nat×TypeId):=match E.und t with|some (.struct fs)=>(fs[f]?).map λd=>(d.offset,d.type)|_=>none
def c2n(t:TypeId):Bool:=match E.und t with
 |some (.struct fs)=>fs.toList.all (λf=>(E.und f.type).isSome)
 |some (.array _ e)=>(E.und e).isSome
 |_=>false
def a8m(t:TypeId)(i:Nat):Option (Nat×Nat):=match E.und t with
 |some (.struct fs)=>(fs[i]?).map λf=>(f.offset,E.sz f.type)
 |some (.array _ e)=>some (i*E.sz e,E.sz e)
 |_=>none
def isT(t:TypeId):Bool:=(E.und t).isSome
end
section
variable {E:Env}{h:FHeap}
def d82:Option Bool→List AV→Option AV
 |some true,cs=>some (.agg cs)
 |some false,cs=>cs.head?
 |none,_=>none
attribute [go_sem] d82 List.head?_cons
@[go_sem] theorem e35(t:TypeId)(cs:List AV):a2d E t cs=bif decide (cs.length=E.sz t)then d82 (a61 E t) cs else none:=by
 unfold a2d a61;have e:(cs.length==E.sz t)=decide (cs.length=E.sz t):=by by_cases h:cs.length=E.sz t<;>simp[h]
 rw[e];cases E.und t with
 |none=>cases decide (cs.length=E.sz t)<;>rfl
 |some d=>cases decide (cs.length=E.sz t)<;>simp[d82]<;>cases a28 d<;>rfl
@[go_sem] theorem e6l(t:TypeId)(cs:List AV)(f:Nat):b6r E t (.agg cs) f=a0g (a4s E t f) λx=>a2d E x.2 ((cs.drop x.1).take (E.sz x.2)):=by
 unfold b6r a4s;cases E.und t with
 |none=>rfl
 |some d=>
  cases d<;>try rfl
  rename_i fs;simp only;cases fs[f]?<;>rfl
def fieldAt(E:Env)(p:AV)(o:Nat)(t:TypeId):Option AV:=
 bif decide (E.sz t≠0)&&isT E t then match p with
  |.ptr b i q=>some (.ptr b i (q+o))
  |.iptr cs=>some (.iptr (cs.drop o))
  |_=>none
 else none
attribute [go_sem] fieldAt
@[go_sem] theorem d6t(t:TypeId)(p:AV)(f:Nat):a5k E t p f=a0g (a4s E t f) λx=>fieldAt E p x.1 x.2:=by
 unfold a5k a4s fieldAt isT;cases E.und t with
 |none=>rfl
 |some d=>
  cases d<;>try rfl
  rename_i fs;simp only;cases fs[f]? with
  |none=>rfl
  |some fd=>
   by_cases h:E.sz fd.type=0
   ·simp[h,a0g]
   ·have e:(E.sz fd.type==0)=false:=beq_eq_false_iff_ne.2 h;simp[h,e,a0g];rfl
@[go_sem] theorem e6n(t:TypeId)(parts:List (Nat×AV)):b6v E t parts=bif c2n E t then a0g (E.zero t) λz=>a0g (b18 (a8m E t) z parts) λcs=>some (.agg cs)else none:=by
 unfold b6v c2n a8m;cases hz:E.zero t with
 |none=>
  simp only[a0g];cases E.und t with
  |none=>rfl
  |some d=>cases d<;>simp
 |some z=>
  cases hu:E.und t with
  |none=>rfl
  |some d=>
   cases d<;>try rfl
   ·simp only[a0g];split<;>simp_all<;>split<;>simp_all<;>rfl
   ·simp only[a0g];split<;>simp_all<;>split<;>simp_all<;>rfl
end
/-! ### values -/
section
variable {E:Env}{h:FHeap}{t:TypeId}{k:IntKind}{a b:Int}{p q:Bool}{c:Bool}
theorem ikb(k:IntKind):(k==k)=true:=by cases k<;>rfl
@[go_sem] theorem e6z:b1b E .add t (.int k a) (.int k b) c=some (.int k (k.wrap (a+b))):=by simp only[b1b,ikb,c4d,cond_true]
@[go_sem] theorem e6p:b1b E .sub t (.int k a) (.int k b) c=some (.int k (k.wrap (a-b))):=by simp only[b1b,ikb,c4d,cond_true]
@[go_sem] theorem e6s(hb:(b=0)=False):b1b E .quo t (.int k a) (.int k b) c=some (.int k (k.wrap (a.tdiv b))):=by
 have:(b==0)=false:=by rw[beq_eq_false_iff_ne];exact λe=>hb▸e
 simp only[b1b,ikb,c4d,cond_true,this,cond_false]
@[go_sem] theorem e6r(hb:(b=0)=False):b1b E .rem t (.int k a) (.int k b) c=some (.int k (a.tmod b)):=by
 have:(b==0)=false:=by rw[beq_eq_false_iff_ne];exact λe=>hb▸e
 simp only[b1b,ikb,c4d,cond_true,this,cond_false]
def e8a(k:IntKind)(a b:Int):Int:=k.wrap (BitVec.ofInt k.bits a^^^BitVec.ofInt k.bits b).toNat
@[go_sem] theorem e6o:b1b E .xor t (.int k a) (.int k b) c=some (.int k (e8a k a b)):=by simp only[b1b,ikb,c4d,cond_true,e8a]
theorem f2k(a b:Int):(a==b)=decide (a=b):=by
 by_cases h:a=b
 ·subst h;simp
 ·rw[beq_eq_false_iff_ne.2 h,decide_eq_false h]
@[go_sem] theorem e6y:b1b E .eql t (.int k a) (.int k b) c=some (.bool (decide (a=b))):=by simp only[b1b,ikb,c4d,cond_true,f2k]
@[go_sem] theorem e6t:b1b E .neq t (.int k a) (.int k b) c=some (.bool (!decide (a=b))):=by simp only[b1b,ikb,c4d,cond_true,bne,f2k]
@[go_sem] theorem e6u:b1b E .lss t (.int k a) (.int k b) c=some (.bool (decide (a<b))):=by simp only[b1b,ikb,c4d,cond_true]
@[go_sem] theorem e6v:b1b E .leq t (.int k a) (.int k b) c=some (.bool (decide (a≤b))):=by simp only[b1b,ikb,c4d,cond_true]
@[go_sem] theorem e6w:b1b E .gtr t (.int k a) (.int k b) c=some (.bool (decide (b<a))):=by simp only[b1b,ikb,c4d,cond_true]
@[go_sem] theorem e6x:b1b E .geq t (.int k a) (.int k b) c=some (.bool (decide (b≤a))):=by simp only[b1b,ikb,c4d,cond_true]
@[go_sem] theorem e6q{op:BinOp}{x y:List UInt8}(h1:op≠ .shl:=by decide)(h2:op≠ .shr:=by decide):b1b E op t (.str x) (.str y) c=e1h op x y:=by cases op<;>first|rfl|exact absurd rfl h1|exact absurd rfl h2
@[go_sem] theorem e9c:aun .not (.bool p)=some (.bool (!p)):=by rfl
@[go_sem] theorem e1v(o:Option AObj)(r:a02):a01 (o::r) 0=o:=by simp[a01]
@[go_sem] theorem e1w(o:Option AObj)(r:a02)(n:Nat):a01 (o::r) (n+1)=a01 r n:=by simp[a01]
@[go_sem] theorem e4t(n:Nat):a01 [] n=none:=by rfl
def slT(E:Env)(t:TypeId):Option TypeId:=match E.und t with|some (.slice e)=>some e|_=>none
theorem a45{e:TypeId}:slT E t=some e↔E.und t=some (.slice e):=by
 unfold slT;constructor
 ·intro h;split at h
  ·rename_i heq;cases h;exact heq
  ·cases h
 ·intro h;rw[h]
def a95:Option AObj→Option (Nat×List (List AV))
 |some (.row k rows)=>some (k,rows)
 |_=>none
attribute [go_sem] a95
def rowAt(rows:List (List AV))(i:Int):Option (List AV):=if 0≤i then rows[i.toNat]? else none
@[go_sem] theorem c7z(rows:List (List AV))(n:Nat):rowAt rows (n:Int)=rows[n]?:=by simp[rowAt]
theorem c7y{rows:List (List AV)}{i:Int}(h:0≤i):rowAt rows i=rows[i.toNat]?:=by simp[rowAt,h]
def inR(i:Int)(n:Nat):Bool:=decide (0≤i)&&decide (i<n)
@[go_sem] theorem c25(j n:Nat):inR (j:Int) n=decide (j<n):=by
 unfold inR;rw[decide_eq_true (by omega:(0:Int)≤j),Bool.true_and];by_cases h:j<n
 ·rw[decide_eq_true h,decide_eq_true (by omega)]
 ·rw[decide_eq_false h,decide_eq_false (by omega)]
theorem b2e{i:Int}{n:Nat}:c6k (.int k i) n=bif inR i n then some i.toNat else none:=rfl
@[go_sem] theorem e1n{b o n:Nat}{cp:Option Nat}(hs:(slT E t).isSome=true):b8l E h t (.slice b o n cp)=some (.int .i64 n):=by obtain⟨e,he⟩:=Option.isSome_iff_exists.1 hs;simp only[b8l,a45.1 he]
@[go_sem] theorem e03{rows:List (List AV)}{cp:Option Nat}(hs:(slT E t).isSome=true):b8l E h t (.islice rows cp)=some (.int .i64 rows.length):=by obtain⟨e,he⟩:=Option.isSome_iff_exists.1 hs;simp only[b8l,a45.1 he]
@[go_sem] theorem e6k(hs:(slT E t).isSome=true):b8l E h t .nilslice=some (.int .i64 0):=by obtain⟨e,he⟩:=Option.isSome_iff_exists.1 hs;simp only[b8l,a45.1 he]
def e2b(E:Env)(t:TypeId):Bool:=match E.und t with|some .string=>true|_=>false
theorem c32:e2b E t=true→E.und t=some .string:=by
 unfold e2b;intro h;split at h
 ·rename_i heq;exact heq
 ·cases h
@[go_sem] theorem e6j{s:List UInt8}(hs:e2b E t=true):b8l E h t (.str s)=some (.int .i64 s.length):=by simp only[b8l,c32 hs]
@[go_sem] theorem e6m(hs:(slT E t).isSome=true):e09 E t .nilslice=some (.int .i64 0):=by obtain⟨e,he⟩:=Option.isSome_iff_exists.1 hs;simp only[e09,a45.1 he]
def b4z(E:Env)(e:Option TypeId)(r:Option (List AV)):Option AV:=match e,r with
 |some e,some r=>bif isT E e&&decide (r.length=E.sz e)then some (.iptr r)else none
 |_,_=>none
attribute [go_sem] b4z
theorem c49(a b:Nat):(a==b)=decide (a=b):=by
 by_cases h:a=b
 ·subst h;simp
 ·rw[beq_eq_false_iff_ne.2 h,decide_eq_false h]
@[go_sem] theorem b3p{rows:List (List AV)}{cp:Option Nat}{i:Int}:a0w E h t (.islice rows cp) (.int k i)=match slT E t with|some e=>b4z E (some e) (rowAt rows i)|none=>a0w E h t (.islice rows cp) (.int k i):=by
 cases hs:slT E t with
 |none=>rfl
 |some e=>
  have hu:=a45.1 hs;simp only[a0w,hu,b2e,inR,b4z,isT];by_cases h0:0≤i
  ·rw[decide_eq_true h0,c7y h0];by_cases h1:i<rows.length
   ·rw[decide_eq_true h1];have:i.toNat<rows.length:=by omega
    simp only[z9e this,Bool.and_self,cond_true,c49];cases(E.und e).isSome<;>rfl
   ·rw[decide_eq_false h1];rw[List.getElem?_eq_none (by omega)];simp
  ·simp[h0,rowAt]
def e8d(E:Env)(e:Option TypeId)(ok:Bool)(r:Option (Nat×List (List AV)))(b j:Nat):Option AV:=match e,r with
 |some e,some r=>bif isT E e&&ok&&decide (r.1=E.sz e)then some (.ptr b j 0)else none
 |_,_=>none
attribute [go_sem] e8d Int.toNat_natCast
@[go_sem] theorem e17{b o n:Nat}{cp:Option Nat}{i:Int}:a0w E h t (.slice b o n cp) (.int k i)=match slT E t with|some e=>e8d E (some e) (inR i n) (a95 (h b)) b (o+i.toNat)|none=>a0w E h t (.slice b o n cp) (.int k i):=by
 cases hs:slT E t with
 |none=>rfl
 |some e=>
  have hu:=a45.1 hs;simp only[a0w,hu,b2e,e8d,isT];cases hb:h b with
  |none=>cases inR i n<;>simp[a95]
  |some o=>cases o<;>cases inR i n<;>simp[a95,c49];cases(E.und e).isSome<;>simp
def c2p(E:Env)(t:TypeId):Option (Nat×TypeId):=match E.und t with|some (.array m e)=>some (m,e)|_=>none
theorem d59{m:Nat}{e:TypeId}:c2p E t=some (m,e)→E.und t=some (.array m e):=by
 unfold c2p;intro h;split at h
 ·rename_i heq;cases h;exact heq
 ·cases h
def b69(E:Env)(n:Nat)(e:TypeId)(p:AV)(j:Int):Option AV:=
 bif inR j n&&isT E e then match p with
  |.ptr b i o=>some (.ptr b i (o+j.toNat*E.sz e))
  |.iptr cs=>some (.iptr (cs.drop (j.toNat*E.sz e)))
  |_=>none
 else none
@[go_sem] theorem e16(n:Nat)(e:TypeId)(b i o:Nat)(j:Int):b69 E n e (.ptr b i o) j=bif inR j n&&isT E e then some (.ptr b i (o+j.toNat*E.sz e))else none:=by rfl
@[go_sem] theorem d8x(n:Nat)(e:TypeId)(cs:List AV)(j:Int):b69 E n e (.iptr cs) j=bif inR j n&&isT E e then some (.iptr (cs.drop (j.toNat*E.sz e)))else none:=by rfl
theorem c3q{n:Nat}{e:TypeId}{p:AV}{j:Int}(hu:c2p E t=some (n,e)):a0w E h t p (.int k j)=b69 E n e p j:=by
 simp only[a0w,d59 hu,b2e,b69,isT];cases inR j n with
 |false=>rfl
 |true=>simp only[cond_true,Bool.true_and];cases(E.und e).isSome<;>cases p<;>rfl
@[go_sem] theorem e5w{b i o:Nat}{j:Int}:a0w E h t (.ptr b i o) (.int k j)=match c2p E t with|some (n,e)=>b69 E n e (.ptr b i o) j|none=>a0w E h t (.ptr b i o) (.int k j):=by
 cases hu:c2p E t with
 |none=>rfl
 |some x=>exact c3q hu
@[go_sem] theorem e3m{cs:List AV}{j:Int}:a0w E h t (.iptr cs) (.int k j)=match c2p E t with|some (n,e)=>b69 E n e (.iptr cs) j|none=>a0w E h t (.iptr cs) (.int k j):=by
 cases hu:c2p E t with
 |none=>rfl
 |some x=>exact c3q hu
@[go_sem] theorem f4w(n:Nat):inR 0 n=decide (0<n):=c25 0 n
@[go_sem] theorem e79:Int.toNat 0=0:=by rfl
@[go_sem] theorem f4v(n:Nat):inR 1 n=decide (1<n):=c25 1 n
@[go_sem] theorem e78:Int.toNat 1=1:=by rfl
@[go_sem] theorem f4u(n:Nat):inR 2 n=decide (2<n):=c25 2 n
@[go_sem] theorem e77:Int.toNat 2=2:=by rfl
@[go_sem] theorem e1o{s:List UInt8}{i:Int}(hs:e2b E t=true):b6q E t (.str s) (.int k i)=bif inR i s.length then(s[i.toNat]?).map (λb=>.int .u8 b.toNat)else none:=by
 simp only[b6q,c32 hs,b2e];cases inR i s.length with
 |false=>rfl
 |true=>simp only[cond_true];cases s[i.toNat]?<;>rfl
@[go_sem] theorem e1m{cs:List AV}:a64 E h t (.iptr cs)=a2d E t (cs.take (E.sz t)):=by rfl
@[go_sem] theorem e4n{b i o:Nat}:a64 E h t (.ptr b i o)=a0g (a95 (h b)) λkr=>a0g (kr.2[i]?) λr=>a2d E t ((r.drop o).take (E.sz t)):=by
 unfold a64;cases hb:h b with
 |none=>simp only[hb];rfl
 |some ob=>cases ob<;>simp only[hb,a95,a0g];rename_i rows;cases rows[i]?<;>rfl
@[go_sem] theorem e1i{b i o:Nat}{x:AV}:a7l E h t (.ptr b i o) x=a0g (a95 (h b)) λkr=>a0g (kr.2[i]?) λr=>
 bif decide (x.cells.length=E.sz t)&&isT E t&&Nat.ble (o+x.cells.length) r.length&&x.cells.all AV.storable then some (.set b (.row kr.1 (kr.2.set i (splice r o x.cells))))else none:=by
 unfold a7l;cases hb:h b with
 |none=>simp only[hb];rfl
 |some ob=>cases ob<;>simp only[hb,a95,a0g];rename_i rows;cases rows[i]?<;>simp only[isT,c49]
@[go_sem] theorem f2m{n:Nat}:e00 E n t=a0g (E.zero t) λz=>bif decide (0<z.length)then some (.ptr n 0 0,.new (.row z.length [z]))else none:=by
 unfold e00;cases E.zero t with
 |none=>rfl
 |some z=>simp only[a0g];cases z<;>rfl
@[go_sem] theorem f2n{n:Nat}{x:AV}:e0c n x=bif !x.isJunk&&decide (0<x.cells.length)then some (.ptr n 0 0,.new (.row x.cells.length [x.cells]))else none:=by
 have e:Nat.blt 0 x.cells.length=decide (0<x.cells.length):=by rw[Bool.eq_iff_iff];simp[Nat.blt_eq]
 cases x<;>simp only[e0c,e,AV.isJunk,Bool.not_false,Bool.true_and,Bool.not_true,Bool.false_and,cond_false]
theorem d1u(a b:Nat):Nat.ble a b=decide (a≤b):=by rw[Bool.eq_iff_iff];simp[Nat.ble_eq]
theorem c6v(a b:Nat):Nat.blt a b=decide (a<b):=by rw[Bool.eq_iff_iff];simp[Nat.blt_eq]
attribute [go_sem] d1u c6v
@[go_sem] theorem e56(r:List AV)(o:Nat)(cs:List AV):splice r o cs=r.take o++cs++r.drop (o+cs.length):=by rfl
def c8r(E:Env)(e:TypeId)(l c:Int):Bool:=decide (0≤l)&&decide (l≤c)&&decide (c≤281474976710656)&&decide ((E.bytes e:Int)*c≤281474976710656)
@[go_sem] theorem d6s{n:Nat}{k':IntKind}{l c:Int}:a41 E n t (.int k l) (.int k' c)=a0g (slT E t) λe=>a0g (E.zero e) λz=>bif c8r E e l c&&decide (0<z.length)then
 some (AV.slice n 0 l.toNat (some c.toNat),Eff.new (.row z.length (List.replicate c.toNat z)))else none:=by
 cases hs:slT E t with
 |none=>
  unfold a41;unfold slT at hs;cases hu:E.und t with
  |none=>rfl
  |some d=>cases d<;>first|rfl|(rw[hu]at hs;cases hs)
 |some e=>have hu:=a45.1 hs;simp only[a41,hu,a0g,c8r,c6v];cases E.zero e<;>rfl
theorem a8p{e:TypeId}{m:Nat}(h:m≤1000000000)(hb:E.bytes e≤1000):c8r E e (m:Int) (m:Int)=true:=by
 unfold c8r;have h1:E.bytes e*m≤1000*1000000000:=Nat.mul_le_mul hb h;have h2:((E.bytes e:Int)*(m:Int))=((E.bytes e*m:Nat):Int):=by simp
 rw[h2];simp only[Bool.and_eq_true,decide_eq_true_eq];omega
@[go_sem] theorem d5l{n m:Nat}{ps:List (Nat×AV)}:a3c E n t m ps=a0g (slT E t) λe=>a0g (E.zero e) λz=>bif decide (0<z.length)&&decide (m*z.length≤16777216)then
 a0g (b4n z.length (List.replicate m z) ps) λrows=>some (AV.slice n 0 m (some m),Eff.new (.row z.length rows))else none:=by
 cases hs:slT E t with
 |none=>
  unfold a3c;unfold slT at hs;cases hu:E.und t with
  |none=>rfl
  |some d=>cases d<;>first|rfl|(rw[hu]at hs;cases hs)
 |some e=>
  have hu:=a45.1 hs;simp only[a3c,hu,a0g];cases E.zero e with
  |none=>rfl
  |some z=>
   simp only[c6v,d1u];cases decide (0<z.length)&&decide (m*z.length≤16777216)with
   |false=>rfl
   |true=>simp only[cond_true];cases b4n z.length (List.replicate m z) ps<;>rfl
@[go_sem] theorem e4j(m:Nat)(rows:List (List AV)):b4n m rows []=some rows:=by rfl
@[go_sem] theorem e1l(m:Nat)(rows:List (List AV))(i:Nat)(v:AV)(r:List (Nat×AV)):b4n m rows ((i,v)::r)=bif !v.isJunk&&decide (v.cells.length=m)&&decide (i<rows.length)then b4n m (rows.set i v.cells) r else none:=by simp only[b4n,c49,c6v]
@[go_sem] theorem e4o(pl:Nat→Option (Nat×Nat))(cs:List AV):b18 pl cs []=some cs:=by rfl
@[go_sem] theorem e1p(pl:Nat→Option (Nat×Nat))(cs:List AV)(i:Nat)(v:AV)(r:List (Nat×AV)):b18 pl cs ((i,v)::r)=a0g (pl i) λx=>bif !v.isJunk&&decide (v.cells.length=x.2)&&decide (x.1+x.2≤cs.length)then b18 pl (splice cs x.1 v.cells) r else none:=by
 simp only[b18];cases pl i with
 |none=>rfl
 |some x=>simp only[a0g,c49,d1u]
@[go_sem] theorem e49{H:a02}:b14 H .none=H:=by rfl
@[go_sem] theorem e6a{H:a02}{o:AObj}:b14 H (.new o)=H++[some o]:=by rfl
@[go_sem] theorem e69{H:a02}{b:Nat}{o:AObj}:b14 H (.set b o)=H.set b (some o):=by rfl
@[go_sem] theorem e4a{H:a02}{b:Nat}{o:AObj}:b14 H (.kill b o)=H.set b none++[some o]:=by rfl
@[go_sem] theorem e68{n:Nat}{o:AObj}:Eff.fits n (.new o)=true:=by rfl
@[go_sem] theorem e42{n:Nat}:Eff.fits n .none=true:=by rfl
@[go_sem] theorem e67{n b:Nat}{o:AObj}:Eff.fits n (.set b o)=decide (b<n):=c6v b n
@[go_sem] theorem e43{n b:Nat}{o:AObj}:Eff.fits n (.kill b o)=decide (b<n):=c6v b n
attribute [go_sem] List.all_cons List.all_nil List.set_cons_zero List.set_cons_succ List.set_nil List.replicate_zero
end
@[go_sem] theorem e1g(b:Bool):AV.cells (.bool b)=[(AV.bool b)]:=by rfl
@[go_sem] theorem d2b(b:Bool):AV.storable (.bool b)=true:=by rfl
@[go_sem] theorem e4e(k:IntKind)(n:Int):AV.cells (.int k n)=[(AV.int k n)]:=by rfl
@[go_sem] theorem d5w(k:IntKind)(n:Int):AV.storable (.int k n)=true:=by rfl
@[go_sem] theorem e5s(k:IntKind)(n:Int):AV.isJunk (.int k n)=false:=by rfl
@[go_sem] theorem e0n(k:IntKind)(n:Int):a0i (.int k n)=[]:=by rfl
@[go_sem] theorem e4d(s:List UInt8):AV.cells (.str s)=[(AV.str s)]:=by rfl
@[go_sem] theorem d5v(s:List UInt8):AV.storable (.str s)=true:=by rfl
@[go_sem] theorem e5r(s:List UInt8):AV.isJunk (.str s)=false:=by rfl
@[go_sem] theorem e0k(s:List UInt8):a0i (.str s)=[]:=by rfl
@[go_sem] theorem d1t:AV.cells .nilslice=[AV.nilslice]:=by rfl
@[go_sem] theorem c4r:AV.storable .nilslice=true:=by rfl
@[go_sem] theorem d3k:AV.isJunk .nilslice=false:=by rfl
@[go_sem] theorem c76:a0i .nilslice=[]:=by rfl
@[go_sem] theorem e0l(b i o:Nat):a0i (.ptr b i o)=[b]:=by rfl
@[go_sem] theorem d79(l:List AV):a0i (.iptr l)=[]:=by rfl
@[go_sem] theorem d9m(b o n:Nat)(c:Option Nat):AV.cells (.slice b o n c)=[(AV.slice b o n c)]:=by rfl
@[go_sem] theorem d1q(b o n:Nat)(c:Option Nat):AV.storable (.slice b o n c)=true:=by rfl
@[go_sem] theorem e15(b o n:Nat)(c:Option Nat):AV.isJunk (.slice b o n c)=false:=by rfl
@[go_sem] theorem d5t(b o n:Nat)(c:Option Nat):a0i (.slice b o n c)=[b]:=by rfl
@[go_sem] theorem d6m(r:List (List AV))(c:Option Nat):AV.cells (.islice r c)=[(AV.islice r c)]:=by rfl
@[go_sem] theorem c7d(r:List (List AV))(c:Option Nat):AV.storable (.islice r c)=true:=by rfl
@[go_sem] theorem d8r(r:List (List AV))(c:Option Nat):AV.isJunk (.islice r c)=false:=by rfl
@[go_sem] theorem d28(r:List (List AV))(c:Option Nat):a0i (.islice r c)=[]:=by rfl
@[go_sem] theorem e0m(b:Nat):a0i (.map b)=[b]:=by rfl
@[go_sem] theorem e1f(f:Fn)(a b:List AV):AV.cells (.func f a b)=[(AV.func f a b)]:=by rfl
@[go_sem] theorem d2a(f:Fn)(a b:List AV):AV.storable (.func f a b)=true:=by rfl
@[go_sem] theorem e3k(f:Fn)(a b:List AV):AV.isJunk (.func f a b)=false:=by rfl
@[go_sem] theorem e4f(l:List AV):AV.cells (.agg l)=l:=by rfl
@[go_sem] theorem e5t(l:List AV):AV.isJunk (.agg l)=false:=by rfl
@[go_sem] theorem e3h(n:Nat):Eff.keys n .none=[]:=by rfl
@[go_sem] theorem e5q(n:Nat)(o:AObj):Eff.keys n (.new o)=[n]:=by rfl
@[go_sem] theorem e5p(n b:Nat)(o:AObj):Eff.keys n (.set b o)=[b]:=by rfl
@[go_sem] theorem e3i(n b:Nat)(o:AObj):Eff.keys n (.kill b o)=[b,n]:=by rfl
@[go_sem] theorem f4g:1+1=2:=by rfl
@[go_sem] theorem f4f:2+1=3:=by rfl
@[go_sem] theorem f4e:3+1=4:=by rfl
@[go_sem] theorem f4d:4+1=5:=by rfl
@[go_sem] theorem f4c:5+1=6:=by rfl
@[go_sem] theorem f4b:6+1=7:=by rfl
@[go_sem] theorem f4a:7+1=8:=by rfl
@[go_sem] theorem f3z:8+1=9:=by rfl
@[go_sem] theorem f3y:9+1=10:=by rfl
@[go_sem] theorem f0p:10+1=11:=by rfl
@[go_sem] theorem f0o:11+1=12:=by rfl
@[go_sem] theorem f0k:2+2=4:=by rfl
@[go_sem] theorem f0j:2+3=5:=by rfl
@[go_sem] theorem f0i:3+2=5:=by rfl
@[go_sem] theorem f0h:3+3=6:=by rfl
@[go_sem] theorem f0n:1+2=3:=by rfl
@[go_sem] theorem f0m:1+3=4:=by rfl
@[go_sem] theorem f0l:1+4=5:=by rfl
@[go_sem] theorem e5b{α:Type}(a:α):List.replicate 1 a=[a]:=by rfl
@[go_sem] theorem e5a{α:Type}(a:α):List.replicate 2 a=[a,a]:=by rfl
@[go_sem] theorem e59{α:Type}(a:α):List.replicate 3 a=[a,a,a]:=by rfl
attribute [go_sem] List.map_cons List.map_nil List.append_nil List.nil_append List.cons_append List.length_cons List.length_nil a28 cond_true cond_false Option.map_some Option.map_none List.drop_zero List.drop_succ_cons List.take_succ_cons List.take_zero List.drop_nil List.take_nil List.getElem?_cons_zero List.getElem?_cons_succ List.getElem?_nil Nat.zero_add Nat.add_zero Nat.zero_mul Nat.mul_one decide_true decide_false Bool.and_true Bool.true_and Bool.and_false Bool.false_and Bool.or_true Bool.true_or Bool.or_false Bool.false_or Bool.not_true Bool.not_false Option.bind_some Option.isSome_some a2z decide_eq_true_eq
end Go.Ax
/- AxFlat: values that refer to no mutable block: renaming and freezing leave them; calls on them. -/
namespace Go.Ax
mutual
theorem a0d(π:Nat→Option Nat):∀(v:AV),refs v=[]→ren π v=v
 |.ptr ..,h=>by simp[refs]at h
 |.slice ..,h=>by simp[refs]at h
 |.map ..,h=>by simp[refs]at h
 |.yfn ..,h=>by simp[refs]at h
 |.func fn fs cs,h=>by simp only[refs,List.append_eq_nil_iff]at h;simp only[ren,a6m π fs h.1,a6m π cs h.2]
 |.iface t x,h=>by simp only[refs]at h;simp only[ren,a0d π x h]
 |.agg cs,h=>by simp only[refs]at h;simp only[ren,a6m π cs h]
 |.tuple cs,h=>by simp only[refs]at h;simp only[ren,a6m π cs h]
 |.junk,_|.bool _,_|.int ..,_|.str _,_|.nilptr,_|.nilslice,_|.nilmap,_|.nilfunc,_|.nilifc,_|.iptr _,_|.islice ..,_|.imap ..,_|.iset _,_=>rfl
theorem a6m(π:Nat→Option Nat):∀(l:List AV),a0e l=[]→b8u π l=l
 | [],_=>rfl
 |v::vs,h=>by simp only[a0e,List.append_eq_nil_iff]at h;simp only[b8u,a0d π v h.1,a6m π vs h.2]
end
theorem a35(π:Nat→Option Nat){l:List AV}(h:a0e l=[]):l.map (ren π)=l:=by rw[←a7u];exact a6m π l h
mutual
theorem a0j(m:Nat)(top:Bool)(d:AV→Option AV):∀(v:AV),refs v=[]→a3a m top d v=some v
 |.ptr ..,h=>by simp[refs]at h
 |.slice ..,h=>by simp[refs]at h
 |.map ..,h=>by simp[refs]at h
 |.yfn ..,h=>by simp[refs]at h
 |.func fn fs cs,h=>by simp only[refs,List.append_eq_nil_iff]at h;simp only[a3a,a5x m top d fs h.1,a5x m top d cs h.2]
 |.iface t x,h=>by simp only[refs]at h;simp only[a3a,a0j m top d x h]
 |.agg cs,h=>by simp only[refs]at h;simp only[a3a,a5x m top d cs h]
 |.tuple cs,h=>by simp only[refs]at h;simp only[a3a,a5x m top d cs h]
 |.junk,_|.bool _,_|.int ..,_|.str _,_|.nilptr,_|.nilslice,_|.nilmap,_|.nilfunc,_|.nilifc,_|.iptr _,_|.islice ..,_|.imap ..,_|.iset _,_=>rfl
theorem a5x(m:Nat)(top:Bool)(d:AV→Option AV):∀(l:List AV),a0e l=[]→a56 m top d l=some l
 | [],_=>rfl
 |v::vs,h=>by simp only[a0e,List.append_eq_nil_iff]at h;simp only[a56,a0j m top d v h.1,a5x m top d vs h.2]
end
def FlatR(rows:List (List AV)):Prop:=∀r∈rows,a0e r=[]
theorem FlatR.nil:FlatR []:=λr h=>by simp at h
theorem FlatR.cons{r:List AV}{rows:List (List AV)}(h:a0e r=[])(hs:FlatR rows):FlatR (r::rows):=by
 intro x hx;simp only[List.mem_cons]at hx;rcases hx with rfl|hx
 ·exact h
 ·exact hs x hx
theorem FlatR.append{a b:List (List AV)}(h:FlatR a)(k:FlatR b):FlatR (a++b):=by intro x hx;simp only[List.mem_append]at hx;exact hx.elim (h x) (k x)
theorem FlatR.map{α:Type}{f:α→List AV}{l:List α}(h:∀x,a0e (f x)=[]):FlatR (l.map f):=by intro x hx;simp only[List.mem_map]at hx;obtain⟨y,_,rfl⟩:=hx;exact h y
theorem FlatR.replicate{n:Nat}{r:List AV}(h:a0e r=[]):FlatR (List.replicate n r):=by intro x hx;rw[(List.mem_replicate.1 hx).2];exact h
theorem a08{rows:List (List AV)}(h:FlatR rows):rows.flatMap a0e=[]:=by rw[List.flatMap_eq_nil_iff];exact h
theorem a06(π:Nat→Option Nat){rows:List (List AV)}(h:FlatR rows):rows.map (λr=>r.map (ren π))=rows:=by
 conv=>rhs;rw[←List.map_id rows]
 exact List.map_congr_left λr hr=>a35 π (h r hr)
theorem a17(m:Nat)(d:AV→Option AV):∀{rows:List (List AV)},FlatR rows→a9a m d rows=some rows
 | [],_=>rfl
 |r::rs,h=>by simp only[a9a,a5x m false d r (h r (by simp)),a17 m d (rows:=rs) (λx hx=>h x (by simp[hx]))]
/-! ### slices that are immutable, nil or not -/
def sl(c:Option (Option Nat))(rows:List (List AV)):AV:=match c,rows with
 |none,[]=>.nilslice
 |none,r::rs=>.islice (r::rs) none
 |some c,rows=>.islice rows c
@[go_sem] theorem a4n(c:Option Nat)(rows:List (List AV)):sl (some c) rows = .islice rows c:=by cases rows<;>rfl
@[go_sem] theorem d7i:sl none [] = .nilslice:=by rfl
@[go_sem] theorem b97(r:List AV)(rs:List (List AV)):sl none (r::rs) = .islice (r::rs) none:=by rfl
@[go_sem] theorem a1b(c:Option (Option Nat))(rows:List (List AV)):refs (sl c rows)=[]:=by cases c<;>cases rows<;>rfl
@[go_sem] theorem b9b(π:Nat→Option Nat)(c:Option (Option Nat))(rows:List (List AV)):ren π (sl c rows)=sl c rows:=a0d π _ (a1b c rows)
@[go_sem] theorem e26(c:Option (Option Nat))(rows:List (List AV)):a0i (sl c rows)=[]:=by cases c<;>cases rows<;>rfl
@[go_sem] theorem e6d(c:Option (Option Nat))(rows:List (List AV)):(sl c rows).cells=[sl c rows]:=by cases c<;>cases rows<;>rfl
@[go_sem] theorem d7b(c:Option (Option Nat))(rows:List (List AV)):(sl c rows).storable=true:=by cases c<;>cases rows<;>rfl
@[go_sem] theorem e89(c:Option (Option Nat))(rows:List (List AV)):(sl c rows).isJunk=false:=by cases c<;>cases rows<;>rfl
section
variable {E:Env}{h:FHeap}{t e:TypeId}{c:Option (Option Nat)}{rows:List (List AV)}{k:IntKind}
@[go_sem] theorem e9e(hs:(slT E t).isSome=true):b8l E h t (sl c rows)=some (.int .i64 rows.length):=by obtain⟨e,he⟩:=Option.isSome_iff_exists.1 hs;have ht:=a45.1 he;cases c<;>cases rows<;>simp[sl,b8l,ht]
@[go_sem] theorem e8e{i:Int}:a0w E h t (sl c rows) (.int k i)=match slT E t with|some e=>b4z E (some e) (rowAt rows i)|none=>a0w E h t (sl c rows) (.int k i):=by
 cases c with
 |some c=>rw[a4n];exact b3p
 |none=>cases rows with
  |nil=>
   cases hs:slT E t with
   |none=>rfl
   |some e=>
    have hu:=a45.1 hs;simp only[sl,a0w,hu,b4z];cases h2:rowAt [] i with
    |none=>simp
    |some r=>unfold rowAt at h2;split at h2<;>simp at h2
  |cons a l=>exact b3p
end
/-! ### calls -/
@[go_sem] theorem e97(a:AV):a3b 0 [a]=[(0,a)]:=by rfl
@[go_sem] theorem e96(a b:AV):a3b 0 [a,b]=[(0,a),(1,b)]:=by rfl
@[go_sem] theorem e95(a b c:AV):a3b 0 [a,b,c]=[(0,a),(1,b),(2,c)]:=by rfl
@[go_sem] theorem e94(a b c d:AV):a3b 0 [a,b,c,d]=[(0,a),(1,b),(2,c),(3,d)]:=by rfl
@[go_sem] theorem e93(a b c d e:AV):a3b 0 [a,b,c,d,e]=[(0,a),(1,b),(2,c),(3,d),(4,e)]:=by rfl
@[go_sem] theorem e92(a b c d e f:AV):a3b 0 [a,b,c,d,e,f]=[(0,a),(1,b),(2,c),(3,d),(4,e),(5,f)]:=by rfl
theorem a71(n:Nat)(H1:a02):∀(b:Nat) (H:a02),a16 [] n H1 b H=H
 |_,[]=>rfl
 |b,o::r=>by simp only[a16,List.idxOf?_nil,a71 n H1 (b+1) r]
theorem c0g{run:List AV→a02→Option (AV×a02)}{args:List AV}{H:a02}{v:AV}(ha:a0e args=[])(h:run args []=some (v,[]))(hv:refs v=[]):a2h run args H=some (v,H,[]):=by
 unfold a2h;have hr:a1t H a36 (a0e args) []=[]:=by rw[ha];rfl
 simp only[hr,a4l,List.all_nil,Bool.and_self,cond_true,a35 _ ha,a44,List.map_nil,h,a0d _ v hv,a71,List.drop_nil,List.append_nil,List.length_nil]
theorem a04{E:Env}{draw:Bool}{call:CallF}{g:FuncId}{fs cs ar args:List AV}{H:a02}{v:AV}(hx:E.ext g=false)(hf:(E.fn g).isSome=true)(he:fs++ar++cs=args)(ha:a0e args=[])(h:call g args []=some (v,[]))(hv:refs v=[]) :
 a0a E draw call (.func (.func g) fs cs) ar H=some (v,H,[]):=by
 simp only[a0a,hx,hf,he,cond_true,cond_false,c0g ha h hv];cases draw
 ·rfl
 ·simp only[Bool.true_and];rw[show Nat.ble H.length H.length=true by rw[Nat.ble_eq];exact Nat.le_refl _];rfl
@[go_sem] theorem a9s(k:IntKind)(n:Int):refs (.int k n)=[]:=by rfl
@[go_sem] theorem e2u(b:Bool):refs (.bool b)=[]:=by rfl
@[go_sem] theorem e5g(s:List UInt8):refs (.str s)=[]:=by rfl
@[go_sem] theorem b2v(r:List (List AV))(c:Option Nat):refs (.islice r c)=[]:=by rfl
@[go_sem] theorem c84(r:List AV):refs (.iptr r)=[]:=by rfl
@[go_sem] theorem d2p:refs .nilslice=[]:=by rfl
@[go_sem] theorem a0s(l:List AV):refs (.agg l)=a0e l:=by rfl
@[go_sem] theorem a5h(l:List AV):refs (.tuple l)=a0e l:=by rfl
@[go_sem] theorem e2t(f:Fn)(a b:List AV):refs (.func f a b)=a0e a++a0e b:=by rfl
@[go_sem] theorem e5h(b i o:Nat):refs (.ptr b i o)=[b]:=by rfl
@[go_sem] theorem c54(b i o:Nat)(c:Option Nat):refs (.slice b i o c)=[b]:=by rfl
@[go_sem] theorem e5i(b:Nat):refs (.map b)=[b]:=by rfl
@[go_sem] theorem a12:a0e []=[]:=by rfl
@[go_sem] theorem a07(v:AV)(l:List AV):a0e (v::l)=refs v++a0e l:=by rfl
/-! ### what a loop's head keeps -/
/-! ### globals -/
def gV:Option (List AV)→AV|some cs=>.iptr cs|none=>.junk
@[go_sem] theorem e5j{E:Env}{F:Frm}(g:Nat):opv E F (.global g)=gV (E.G g):=by simp only[opv,gV];cases E.G g<;>rfl
@[go_sem] theorem e8g(cs:List AV):gV (some cs) = .iptr cs:=by rfl
end Go.Ax
/- AxBits: words of 64 bits; sums that fit. -/
namespace Go.Ax
def u64(x:BitVec 64):AV:=.int .u64 (x.toNat:Int)
section
variable {E:Env}{t:TypeId}{c:Bool}{x y:BitVec 64}{k:IntKind}
def d3z(E:Env)(t:TypeId):Option IntKind:=match E.und t with|some (.int k)=>some k|_=>none
theorem c3n{k:IntKind}:d3z E t=some k→E.und t=some (.int k):=by
 unfold d3z;intro h;split at h
 ·rename_i heq;cases h;exact heq
 ·cases h
def cvI(k:IntKind)(n:Int):AV:=.int k (k.wrap n)
@[go_sem] theorem e99(n:Int):cvI .i64 n = .int .i64 (IntKind.i64.wrap n):=by rfl
@[go_sem] theorem f2h(n:Int):cvI .u8 n = .int .u8 (IntKind.u8.wrap n):=by rfl
@[go_sem] theorem e6c{h:FHeap}{s d:TypeId}{k:IntKind}{n:Int}(hs:isT E s=true):a6w E h s d (.int k n)=match d3z E d with|some k'=>some (cvI k' n)|none=>a6w E h s d (.int k n):=by
 cases hd:d3z E d with
 |none=>rfl
 |some k'=>have hu:=c3n hd;obtain⟨ds,hds⟩:=Option.isSome_iff_exists.1 (show(E.und s).isSome=true from hs);simp only[a6w,hu,hds];cases ds<;>simp[d5k,hu,hds,cvI]
theorem w64{n:Int}(h1:-9223372036854775808≤n)(h2:n≤9223372036854775807):IntKind.i64.wrap n=n:=IntWalk.i64_in n ⟨h1,h2⟩
end
end Go.Ax
/- AxWp: what a statement comes to, by a condition on the end. -/
namespace Go.Ax
@[go_sem] theorem e3j(F:Frm):a1r [] F=[]:=by rfl
@[go_sem] theorem e14(s:Nat)(r:List Nat)(F:Frm):a1r (s::r) F=(s,a33 F s)::a1r r F:=by rfl
@[go_sem] theorem a7a{v:AV}{H:a02}(h:refs v=[]):a26 false 0 v H=some (v,[]):=by simp only[a26,a0j _ _ _ _ h,List.take_zero,List.map_nil,cond_false]
@[go_sem] theorem e31(v:AV):a62 [v]=v:=by rfl
@[go_sem] theorem e30(v w:AV)(l:List AV):a62 (v::w::l) = .tuple (v::w::l):=by rfl
@[go_sem] theorem e6g{E:Env}{F:Frm}{H:a02}:a10 E F H []=some []:=by rfl
@[go_sem] theorem e6f{E:Env}{F:Frm}{H:a02}(t:Nat)(r:List ResultVar):a10 E F H (.tmp t::r)=a0g (a10 E F H r) λvs=>some (a33 F t::vs):=by simp only[a10];cases a10 E F H r<;>rfl
@[go_sem] theorem e4l{E:Env}{F:Frm}{H:a02}(a t:Nat)(r:List ResultVar):a10 E F H (.cell a t::r)=a0g (a64 E (a01 H) t (a33 F a)) λv=>a0g (a10 E F H r) λvs=>some (v::vs):=by simp only[a10];cases a64 E (a01 H) t (a33 F a)<;>cases a10 E F H r<;>rfl
abbrev a9j:=AExit→Frm→a02→Prop
def bk(id:Nat)(Q:a9j):a9j:=λe F H=>match e with|.exit i=>if i=id then Q .normal F H else Q (.exit i) F H|e=>Q e F H
def WpR:Code→Cx→Frm→a02→a9j→Prop
 |.skip,_,F,H,Q=>Q .normal F H
 |.label _,_,F,H,Q=>Q .normal F H
 |.exit id,_,F,H,Q=>Q (.exit id) F H
 |.ret,_,F,H,Q=>Q .ret F H
 |.seq a b,x,F,H,Q=>WpR a x F H λe F H=>match e with|.normal=>WpR b x F H Q|e=>Q e F H
 |.block id b,x,F,H,Q=>WpR b { x with cur:=id } F H (bk id Q)
 |.scope b,x,F,H,Q=>WpR b x F H Q
 |c,x,F,H,Q=>∃e F' H',Ev x c F H (e,F',H')∧Q e F' H'
def Wp(x:Cx)(c:Code)(F:Frm)(H:a02)(Q:a9j):Prop:=WpR c x F H Q
def sq(x:Cx)(b:Code)(Q:a9j):a9j:=λe F H=>match e with|.normal=>Wp x b F H Q|e=>Q e F H
def cx(E:Env)(M:List Fact)(m N:Nat)(g:FuncId)(cur:Nat):Cx:=⟨E,M,m,N,E.keep g,cur⟩
def lp{σ:Type}(m:Nat)(keep:List Nat)(Fs:σ→Frm)(Hs:σ→a02)(meas:σ→Nat)(Inv:σ→Prop)(n:Nat)(Q:a9j):a9j:=λe F H=>match e with|.normal=>∃s,gcD m keep F H=some (Fs s,Hs s)∧meas s<n∧Inv s|e=>Q e F H
def fq(E:Env)(g:FuncId)(m:Nat)(results:List ResultVar)(r:AV×a02):a9j:=λe F H=>match e with|.exit _=>False|_=>∃vs,a10 E F H results=some vs∧a26 (E.thaw g) m (a62 vs) H=some r
def lpJ(m:Nat)(keep:List Nat)(J:Nat→Frm→a02→Prop)(n:Nat)(Q:a9j):a9j:=λe F H=>match e with|.normal=>∃F1 H1 n',gcD m keep F H=some (F1,H1)∧n'<n∧J n' F1 H1|e=>Q e F H
@[irreducible] def d6d:AV→Option Bool|.bool b=>some b|_=>none
@[go_sem] theorem f0q:d6d (.bool true)=some true:=by unfold d6d;rfl
@[go_sem] theorem f0r:d6d (.bool false)=some false:=by unfold d6d;rfl
theorem d8l{v:AV}{t:Bool}(h:d6d v=some t):v = .bool t:=by
 unfold d6d at h;split at h
 ·cases h;rfl
 ·cases h
def hs(E:Env)(M:List Fact)(N:Nat):Code→Frm→a02→Frm→a02→List LogE→Bool→Prop
 |.region id ops draw,F,H,F1,H1,log,t=>(a8w E draw N (sem E M) ops.toList ops.toList [] F H,true)=(some (F1,H1,log),t)
 |.cond c a b,F,H,F1,H1,log,t=>(d6d (opv E F c),F,H,[])=(some t,F1,H1,log)
 |_,_,_,_,_,_,_=>False
def sd:Code→List LogE→Bool
 |.region id ops draw,log=>!draw||logOk ops.toList log.length log
 |_,_=>true
def ct(x:Cx):Code→Bool→Frm→a02→a9j→Prop
 |.region id ops draw,t,F,H,Q=>Q .normal F H
 |.cond c a b,t,F,H,Q=>Wp x (bif t then a else b) F H Q
 |_,_,_,_,_=>False
@[go_sem] theorem f9h(E:Env)(M:List Fact)(N:Nat)(id ops draw F H F1 H1 log t):hs E M N (.region id ops draw) F H F1 H1 log t=((a8w E draw N (sem E M) ops.toList ops.toList [] F H,true)=(some (F1,H1,log),t)):=by rfl
@[go_sem] theorem f9i(E:Env)(M:List Fact)(N:Nat)(c a b F H F1 H1 log t):hs E M N (.cond c a b) F H F1 H1 log t=((d6d (opv E F c),F,H,[])=(some t,F1,H1,log)):=by rfl
theorem wx:(∀x id ops draw t F H Q,ct x (.region id ops draw) t F H Q=Q .normal F H)∧(∀x c a b F H Q,ct x (.cond c a b) true F H Q=Wp x a F H Q)∧(∀x c a b F H Q,ct x (.cond c a b) false F H Q=Wp x b F H Q):=⟨λ_ _ _ _ _ _ _ _=>rfl,λ_ _ _ _ _ _ _=>rfl,λ_ _ _ _ _ _ _=>rfl⟩
theorem ww:(∀x F H Q,Wp x .skip F H Q=Q .normal F H)∧(∀x F H Q l,Wp x (.label l) F H Q=Q .normal F H)∧(∀x F H Q i,Wp x (.exit i) F H Q=Q (.exit i) F H)∧(∀x F H Q,Wp x .ret F H Q=Q .ret F H)∧
 (∀x a b F H Q,Wp x (.seq a b) F H Q=Wp x a F H (sq x b Q))∧(∀E M m N g cur i b F H Q,Wp (cx E M m N g cur) (.block i b) F H Q=Wp (cx E M m N g i) b F H (bk i Q))∧(∀x b F H Q,Wp x (.scope b) F H Q=Wp x b F H Q)∧
 (∀x b F H Q,sq x b Q .normal F H=Wp x b F H Q)∧(∀x b F H Q i,sq x b Q (.exit i) F H=Q (.exit i) F H)∧(∀x b F H Q,sq x b Q .ret F H=Q .ret F H)∧
 (∀i F H Q,bk i Q .normal F H=Q .normal F H)∧(∀i F H Q,bk i Q .ret F H=Q .ret F H)∧(∀i F H Q,bk i Q (.exit i) F H=Q .normal F H)∧(∀i j F H Q,(j=i)=False→bk i Q (.exit j) F H=Q (.exit j) F H)∧
 (∀m keep J n Q i F H,lpJ m keep J n Q (.exit i) F H=Q (.exit i) F H)∧(∀m keep J n Q F H,lpJ m keep J n Q .ret F H=Q .ret F H)∧
 (∀(σ:Type) m keep (Fs:σ→Frm) Hs meas Inv n Q i F H,lp m keep Fs Hs meas Inv n Q (.exit i) F H=Q (.exit i) F H)∧(∀(σ:Type) m keep (Fs:σ→Frm) Hs meas Inv n Q F H,lp m keep Fs Hs meas Inv n Q .ret F H=Q .ret F H)∧
 (∀a b:Code,cond true a b=a)∧(∀a b:Code,cond false a b=b)∧
 (∀x id ops draw t F H Q,ct x (.region id ops draw) t F H Q=Q .normal F H)∧(∀x c a b F H Q,ct x (.cond c a b) true F H Q=Wp x a F H Q)∧(∀x c a b F H Q,ct x (.cond c a b) false F H Q=Wp x b F H Q):=
 ⟨λ_ _ _ _=>rfl,λ_ _ _ _ _=>rfl,λ_ _ _ _ _=>rfl,λ_ _ _ _=>rfl,λ_ _ _ _ _ _=>rfl,λ_ _ _ _ _ _ _ _ _ _ _=>rfl,λ_ _ _ _ _=>rfl,λ_ _ _ _ _=>rfl,λ_ _ _ _ _ _=>rfl,λ_ _ _ _ _=>rfl,
  λ_ _ _ _=>rfl,λ_ _ _ _=>rfl,λi F H Q=>by simp only[bk,if_pos],λi j F H Q h=>by simp only[bk,h,if_false],λ_ _ _ _ _ _ _ _=>rfl,λ_ _ _ _ _ _ _=>rfl,λ_ _ _ _ _ _ _ _ _ _ _ _=>rfl,λ_ _ _ _ _ _ _ _ _ _ _=>rfl,λ_ _=>rfl,λ_ _=>rfl,wx⟩
theorem b90:∀(c:Code) {x:Cx} {F:Frm} {H:a02} {Q:a9j},Wp x c F H Q→∃e F' H',Ev x c F H (e,F',H')∧Q e F' H':=by
 intro c
 induction c with
 |skip=>intro x F H Q h;exact⟨_,_,_,Ev.skip,h⟩
 |label l=>intro x F H Q h;exact⟨_,_,_,Ev.label,h⟩
 |exit i=>intro x F H Q h;exact⟨_,_,_,Ev.leave,h⟩
 |ret=>intro x F H Q h;exact⟨_,_,_,Ev.ret,h⟩
 |seq a b iha ihb=>
  intro x F H Q h;obtain⟨e,F',H',h1,h2⟩:=iha h;cases e with
  |normal=>obtain⟨e2,F2,H2,h3,h4⟩:=ihb h2;exact⟨e2,F2,H2,Ev.seq h1 h3,h4⟩
  |exit id=>exact⟨_,_,_,Ev.seq_exit h1,h2⟩
  |ret=>exact⟨_,_,_,Ev.seq_ret h1,h2⟩
 |block id b ih=>
  intro x F H Q h;obtain⟨e,F',H',h1,h2⟩:=ih h;cases e with
  |normal=>exact⟨_,_,_,Ev.block h1,h2⟩
  |exit i=>
   by_cases hi:i=id
   ·subst hi;simp only[bk,if_pos]at h2;exact⟨_,_,_,Ev.block_exit h1,h2⟩
   ·simp only[bk,if_neg hi]at h2;exact⟨_,_,_,Ev.block_on h1 (by simpa using hi),h2⟩
  |ret=>exact⟨_,_,_,Ev.block_ret h1,h2⟩
 |scope b ih=>intro x F H Q h;obtain⟨e,F',H',h1,h2⟩:=ih h;exact⟨e,F',H',Ev.scope h1,h2⟩
 |_=>intro x F H Q h;exact h
theorem c6y:∀{c:Code} {x:Cx} {F:Frm} {H:a02} {Q Q':a9j},Wp x c F H Q→(∀e F H,Q e F H→Q' e F H)→Wp x c F H Q':=by
 intro c
 induction c with
 |skip=>intro x F H Q Q' h hq;exact hq _ _ _ h
 |label l=>intro x F H Q Q' h hq;exact hq _ _ _ h
 |exit i=>intro x F H Q Q' h hq;exact hq _ _ _ h
 |ret=>intro x F H Q Q' h hq;exact hq _ _ _ h
 |seq a b iha ihb=>
  intro x F H Q Q' h hq;refine iha (Q:=sq x b Q) (Q':=sq x b Q') h ?_;intro e F H h;cases e with
  |normal=>exact ihb (x:=x) h hq
  |exit id=>exact hq _ _ _ h
  |ret=>exact hq _ _ _ h
 |block id b ih=>
  intro x F H Q Q' h hq;refine ih (Q:=bk id Q) (Q':=bk id Q') h ?_;intro e F H h;cases e with
  |normal=>exact hq _ _ _ h
  |exit i=>
   simp only[bk]at h⊢;split
   ·rename_i hi;rw[if_pos hi]at h;exact hq _ _ _ h
   ·rename_i hi;rw[if_neg hi]at h;exact hq _ _ _ h
  |ret=>exact hq _ _ _ h
 |scope b ih=>intro x F H Q Q' h hq;exact ih (x:=x) h hq
 |_=>intro x F H Q Q' h hq;obtain⟨e,F',H',h1,h2⟩:=h;exact⟨e,F',H',h1,hq _ _ _ h2⟩
section
variable {x:Cx}{F F1:Frm}{H H1:a02}{Q:a9j}
theorem xs{E:Env}{M:List Fact}{m N:Nat}{g:FuncId}{cur:Nat}{id ops draw}{log:List LogE}(h:a8w E draw N (sem E M) ops.toList ops.toList [] F H=some (F1,H1,log))(hl:(!draw||logOk ops.toList log.length log)=true)(hq:Q .normal F1 H1):Wp (cx E M m N g cur) (.region id ops draw) F H Q:=⟨_,_,_,Ev.region h hl,hq⟩
theorem xI{E:Env}{M:List Fact}{m N:Nat}{g:FuncId}{cur:Nat}{c a b t}(hc:opv E F c = .bool t)(h:Wp (cx E M m N g cur) (bif t then a else b) F H Q):Wp (cx E M m N g cur) (.cond c a b) F H Q:=by
 cases t
 ·obtain⟨e,F',H',h1,h2⟩:=b90 _ h;exact⟨e,F',H',Ev.cond_f hc h1,h2⟩
 ·obtain⟨e,F',H',h1,h2⟩:=b90 _ h;exact⟨e,F',H',Ev.cond_t hc h1,h2⟩
theorem xT{a b}(h:Wp x a F H Q):Wp x (bif true then a else b) F H Q:=h
theorem xF{a b}(h:Wp x b F H Q):Wp x (bif false then a else b) F H Q:=h
theorem d5o{E:Env}{M:List Fact}{m N:Nat}{g:FuncId}{cur:Nat}{keep:List Nat}{b:Code}(hk:E.keep g cur=keep)(J:Nat→Frm→a02→Prop)(n0:Nat)(h0:∃F1 H1,gcD m keep F H=some (F1,H1)∧J n0 F1 H1)
 (h:∀n F1 H1,J n F1 H1→Wp (cx E M m N g cur) b F1 H1 (lpJ m keep J n Q)):∃r:AExit×Frm×a02,Q r.1 r.2.1 r.2.2∧EvL (cx E M m N g cur) b F H r:=by
 subst hk;have key:∀n F H F1 H1,gcD m (E.keep g cur) F H=some (F1,H1)→J n F1 H1→∃r:AExit×Frm×a02,Q r.1 r.2.1 r.2.2∧EvL (cx E M m N g cur) b F H r:=by
  intro n
  induction n using Nat.strongRecOn with
  |ind n ih=>
   intro F H F1 H1 hg hJ;obtain⟨e,F',H',h1,h2⟩:=b90 _ (h n F1 H1 hJ);cases e with
   |normal=>obtain⟨F2,H2,n',g1,g2,g3⟩:=h2;obtain⟨r,hr,hl⟩:=ih n' g2 F' H' F2 H2 g1 g3;exact⟨r,hr,EvL.again (x:=cx E M m N g cur) hg h1 hl⟩
   |exit id=>exact⟨(_,_,_),h2,EvL.leave (x:=cx E M m N g cur) hg h1 (λh=>by cases h)⟩
   |ret=>exact⟨(_,_,_),h2,EvL.leave (x:=cx E M m N g cur) hg h1 (λh=>by cases h)⟩
 obtain⟨F1,H1,hg,hJ⟩:=h0;exact key n0 F H F1 H1 hg hJ
theorem a4j{E:Env}{M:List Fact}{m N:Nat}{g:FuncId}{cur:Nat}{keep:List Nat}{b:Code}(hk:E.keep g cur=keep)(J:Nat→Frm→a02→Prop)(n0:Nat)(h0:∃F1 H1,gcD m keep F H=some (F1,H1)∧J n0 F1 H1)
 (h:∀n F1 H1,J n F1 H1→Wp (cx E M m N g cur) b F1 H1 (lpJ m keep J n Q))(hz:d08 keep=false:=by rfl)(hx:a6n b=none:=by rfl):Wp (cx E M m N g cur) (.loop b) F H Q:=by
 obtain⟨⟨e,F',H'⟩,hr,hl⟩:=d5o hk J n0 h0 h;exact⟨e,F',H',Ev.loop hx (by rw[←hk]at hz;exact hz) hl,hr⟩
def fz(m:Nat)(Q:a9j):a9j:=λe F H=>Q e (b82 m H F) (b0e m H)
theorem c0w{E:Env}{M:List Fact}{m N:Nat}{g:FuncId}{cur:Nat}{keep:List Nat}{b:Code}(hk:E.keep g cur=keep)(hz:d08 keep=true)(j:Nat)(hj:c5v keep=j)(J:Nat→Frm→a02→Prop)(n0:Nat)(h0:∃F1 H1,gcD m keep F H=some (F1,H1)∧J n0 F1 H1)
 (h:∀n F1 H1,J n F1 H1→Wp (cx E M m N g cur) b F1 H1 (lpJ m keep J n (fz (m+j) Q)))(hx:a6n b=none:=by rfl):Wp (cx E M m N g cur) (.loop b) F H Q:=by
 obtain⟨⟨e,F',H'⟩,hr,hl⟩:=d5o hk J n0 h0 h;subst hk;subst hj;exact⟨e,_,_,Ev.loopZ hx (x:=cx E M m N g cur) hz hl,hr⟩
theorem e1z{E:Env}{M:List Fact}{m N:Nat}{g:FuncId}{cur:Nat}{keep:List Nat}{b:Code}(hk:E.keep g cur=keep)(hz:d08 keep=true)(J:Nat→Frm→a02→Prop)(n0:Nat)(h0:∃F1 H1,gcD m keep F H=some (F1,H1)∧J n0 F1 H1)
 (h:∀n F1 H1,J n F1 H1→Wp (cx E M m N g cur) b F1 H1 (lpJ m keep J n (fz m Q)))(hx:a6n b=none:=by rfl)(hj:c5v keep=0:=by rfl):Wp (cx E M m N g cur) (.loop b) F H Q:=c0w hk hz 0 hj J n0 h0 h hx
theorem a0p{E:Env}{M:List Fact}{m N:Nat}{g:FuncId}{cur:Nat}{keep:List Nat}{b:Code}(hk:E.keep g cur=keep){σ:Type}(Fs:σ→Frm)(Hs:σ→a02)(meas:σ→Nat)(Inv:σ→Prop)(s0:σ)(h0:gcD m keep F H=some (Fs s0,Hs s0))(hi:Inv s0)
 (h:∀s,Inv s→Wp (cx E M m N g cur) b (Fs s) (Hs s) (lp m keep Fs Hs meas Inv (meas s) Q))(hz:d08 keep=false:=by rfl)(hx:a6n b=none:=by rfl):Wp (cx E M m N g cur) (.loop b) F H Q:=by
 refine a4j hk (λn F1 H1=>∃s,F1=Fs s∧H1=Hs s∧n=meas s∧Inv s) (meas s0) ⟨_,_,h0,s0,rfl,rfl,rfl,hi⟩ ?_ hz hx
 rintro n F1 H1 ⟨s,rfl,rfl,rfl,hs⟩
 refine c6y (h s hs) ?_;intro e F' H' h2;cases e with
 |normal=>obtain⟨s',g1,g2,g3⟩:=h2;exact⟨_,_,_,g1,g2,s',rfl,rfl,rfl,g3⟩
 |exit id=>exact h2
 |ret=>exact h2
theorem a2s{E:Env}{M:List Fact}{m N:Nat}{g:FuncId}{cur:Nat}{keep:List Nat}(hk:E.keep g cur=keep){b:Code}{σ:Type}(Fs:σ→Frm)(Hs:σ→a02)(meas:σ→Nat)(Inv:σ→Prop)(s0:σ)(h0:gcD m keep F H=some (Fs s0,Hs s0))(hi:Inv s0)
 (_:∀s,Inv s→gcD m keep (Fs s) (Hs s)=some (Fs s,Hs s))(h:∀s,Inv s→Wp (cx E M m N g cur) b (Fs s) (Hs s) (lp m keep Fs Hs meas Inv (meas s) Q))(hz:d08 keep=false:=by rfl)(hx:a6n b=none:=by rfl):Wp (cx E M m N g cur) (.loop b) F H Q:=a0p hk Fs Hs meas Inv s0 h0 hi h hz hx
theorem a1j{m:Nat}{keep:List Nat}{J:Nat→Frm→a02→Prop}{n:Nat}(n':Nat)(hn:n'<n)(h:∃F1 H1,gcD m keep F H=some (F1,H1)∧J n' F1 H1):lpJ m keep J n Q .normal F H:=by obtain⟨F1,H1,h1,h2⟩:=h;exact⟨F1,H1,n',h1,hn,h2⟩
theorem a27{σ:Type}{m:Nat}{keep:List Nat}{Fs:σ→Frm}{Hs:σ→a02}{meas:σ→Nat}{Inv:σ→Prop}{n:Nat}(s:σ)(h1:gcD m keep F H=some (Fs s,Hs s))(h2:meas s<n)(h3:Inv s):lp m keep Fs Hs meas Inv n Q .normal F H:=⟨s,h1,h2,h3⟩
theorem a7k{E:Env}{g:FuncId}{m:Nat}{results:List ResultVar}{r:AV×a02}{vs:List AV}(h1:a10 E F H results=some vs)(h2:a26 (E.thaw g) m (a62 vs) H=some r):fq E g m results r .ret F H:=⟨vs,h1,h2⟩
end
theorem e2j{E:Env}{M:List Fact}{g:FuncId}{args:List AV}{H:a02}{code:Code}{N:Nat}{results:List ResultVar}{r:AV×a02}
 (hfn:E.fn g=some ⟨code,N,results⟩)(hno:∀y∈M,y.g≠g)(hN:Nat.ble args.length N=true){m:Nat}(hm:H.length=m)(h:Wp (cx E M m N g 0) code (a3b 0 args) H (fq E g m results r))(hp:E.prim g args=none:=by rfl)(hz:E.zf g=false:=by rfl)(hw:E.raw g=false:=by rfl):sem E M g args H=some r:=by
 subst hm;obtain⟨e,F',H',h1,h2⟩:=b90 _ h;obtain⟨v,H2⟩:=r;cases e with
 |normal=>obtain⟨vs,h3,h4⟩:=h2;exact c37 hfn hno hN h1 (λ_ h=>by cases h) h3 h4 hp hz hw
 |ret=>obtain⟨vs,h3,h4⟩:=h2;exact c37 hfn hno hN h1 (λ_ h=>by cases h) h3 h4 hp hz hw
 |exit id=>exact h2.elim
theorem xa{E:Env}{M:List Fact}{m N:Nat}{g:FuncId}{cur:Nat}{c:Code}{F F1:Frm}{H H1:a02}{log:List LogE}{t:Bool}{Q:a9j}(h:hs E M N c F H F1 H1 log t)(hl:sd c log=true)(k:ct (cx E M m N g cur) c t F1 H1 Q):Wp (cx E M m N g cur) c F H Q:=by
 cases c with
 |region id ops draw=>exact xs (congrArg Prod.fst h) hl k
 |cond c a b=>have h1:opv E F c = .bool t:=d8l (congrArg Prod.fst h);have h2:(F,H,([]:List LogE))=(F1,H1,log):=congrArg Prod.snd h;cases h2;exact xI h1 k
 |_=>exact k.elim
theorem gS:(∀a b:Code,(some a).getD b=a)∧(∀l:List ResultVar,(List.toArray l).toList=l):=⟨λ_ _=>rfl,λ_=>rfl⟩
def AExit.fin:AExit→Bool
 |.exit _=>false
 |_=>true
@[go_sem] theorem f4z:AExit.ret.fin=true:=by rfl
theorem fqb{E:Env}{g:FuncId}{m:Nat}{results:List ResultVar}{r:AV×a02}{e:AExit}{F:Frm}{H:a02}(h:(bif e.fin then a0g (a10 E F H results) λvs=>a26 (E.thaw g) m (a62 vs) H else none)=some r):fq E g m results r e F H:=by
 cases ha:a10 E F H results with
 |none=>rw[ha]at h;cases e<;>cases h
 |some vs=>
  rw[ha]at h;cases e with
  |exit i=>cases h
  |_=>exact⟨vs,ha,h⟩
theorem sv{E:Env}{M:List Fact}{g:FuncId}{args:List AV}{H:a02}{r:AV×a02}(f:Func)(h:Wp (cx E M H.length f.ntmps g 0) (f.body.getD .skip) (a3b 0 args) H (fq E g H.length f.results.toList r))(hfn:E.fn g=some ⟨f.body.getD .skip,f.ntmps,f.results.toList⟩:=by kernel_rfl)
 (hno:(M.all λy=>!Nat.beq y.g g)=true:=by rfl)(hN:Nat.ble args.length f.ntmps=true:=by rfl)(hp:E.prim g args=none:=by rfl)(hz:E.zf g=false:=by rfl)(hw:E.raw g=false:=by rfl):sem E M g args H=some r:=e2j hfn (λy hy e=>by
 have:=List.all_eq_true.1 hno y hy;rw[e]at this;simp at this) hN rfl h hp hz hw
end Go.Ax
/- AxTyp: d74 abstract values, taken apart. -/
namespace Go.Ax
section
variable {E:Env}{n:Nat}{t e:TypeId}{avs:List AV}
theorem a9m{α:Type}{f:α→List AV}{P:α→Prop}(hs:slT E t=some e)(he:∀r,Typ E n e r→∃x,P x∧r=f x)(h:Typ E (n+1) t avs) :
 ∃(c:Option (Option Nat)) (l:List α),avs=[sl c (l.map f)]∧l.length≤maxLen∧∀x∈l,P x:=by
 simp only[Typ,a45.1 hs]at h;rcases h with rfl|⟨rows,cap,rfl,h1,h2,h3⟩
 ·exact⟨none,[],rfl,by simp,by simp⟩
 ·have key:∀rows:List (List AV),(∀r∈rows,r.length=E.sz e∧Typ E n e r)→∃l:List α,rows=l.map f∧∀x∈l,P x:=by
   intro rows
   induction rows with
   |nil=>intro _;exact⟨[],rfl,by simp⟩
   |cons r rs ih=>
    intro hh;obtain⟨x,hx,rfl⟩:=he r (hh r (by simp)).2;obtain⟨l,rfl,hl⟩:=ih (λr hr=>hh r (by simp[hr]));refine⟨x::l,rfl,?_⟩;intro y hy;simp only[List.mem_cons]at hy;rcases hy with rfl|hy
    ·exact hx
    ·exact hl y hy
  obtain⟨l,rfl,hl⟩:=key rows h3;exact⟨some (some cap),l,by rw[a4n],by simpa using Nat.le_trans h1 h2,hl⟩
theorem d75{k:IntKind}(hk:d3z E t=some k)(h:Typ E (n+1) t avs):∃i,avs=[.int k i]∧(Lit.int k i).wf=true:=by simpa only[Typ,c3n hk]using h
theorem a43(hk:d3z E t=some .u8)(h:Typ E (n+1) t avs):∃i:Nat,avs=[.int .u8 i]∧i<256:=by
 obtain⟨i,h1,h2⟩:=d75 hk h;simp only[Lit.wf,Bool.and_eq_true,decide_eq_true_eq]at h2;have e1:IntKind.u8.min=0:=by rfl
 have e2:IntKind.u8.max=255:=by rfl
 rw[e1,e2]at h2;exact⟨i.toNat,by rw[h1,Int.toNat_of_nonneg h2.1],by omega⟩
theorem b70(hb:E.und t=some .bool)(h:Typ E (n+1) t avs):∃b,avs=[.bool b]:=by simpa only[Typ,hb]using h
def b11(E:Env)(t:TypeId):Option (List TypeId):=match E.und t with|some (.struct fs)=>some (fs.toList.map (·.type))|_=>none
def c4g(E:Env)(n:Nat):List TypeId→List AV→Prop
 | [],avs=>avs=[]
 |t::ts,avs=>∃p r,avs=p++r∧Typ E n t p∧c4g E n ts r
theorem a8e{ts:List TypeId}(hf:b11 E t=some ts)(h:Typ E (n+1) t avs):c4g E n ts avs:=by
 unfold b11 at hf;split at hf
 case h_2=>cases hf
 rename_i fs hu;cases hf;simp only[Typ,hu]at h;obtain⟨parts,rfl,h1,h2⟩:=h;have key:∀(fs:List Field) (parts:List (List AV)),parts.length=fs.length→(∀(i:Nat) f p,fs[i]?=some f→parts[i]?=some p→p.length=E.sz f.type∧Typ E n f.type p)→c4g E n (fs.map (·.type)) parts.flatten:=by
  intro fs
  induction fs with
  |nil=>intro parts hl _;have:=List.length_eq_zero_iff.1 hl;subst this;rfl
  |cons f fs ih=>
   intro parts hl hh;cases parts with
   |nil=>simp at hl
   |cons p parts=>exact⟨p,parts.flatten,by simp,(hh 0 f p rfl rfl).2,ih parts (by simpa using hl) (λi f p hf hp=>hh (i+1) f p (by simpa using hf) (by simpa using hp))⟩
 exact key fs.toList parts h1 h2
theorem a9n{m:Nat}(hf:c2p E t=some (m,e))(h:Typ E (n+1) t avs):c4g E n (List.replicate m e) avs:=by
 unfold c2p at hf;split at hf
 case h_2=>cases hf
 rename_i m' e' hu;cases hf;simp only[Typ,hu]at h;obtain⟨parts,rfl,h1,h2⟩:=h;subst h1;clear hu
 induction parts with
 |nil=>rfl
 |cons p parts ih=>simp only[List.length_cons,List.replicate_succ];exact⟨p,parts.flatten,by simp,(h2 p (by simp)).2,ih (λq hq=>h2 q (by simp[hq]))⟩
theorem b71{a:AV}(hg:a61 E t=some true)(h:e1u E n t a):∃avs,a = .agg avs∧Typ E n t avs:=by
 unfold e1u at h;unfold a61 at hg;cases hu:E.und t with
 |none=>rw[hu]at h;exact h.elim
 |some d=>rw[hu]at h hg;simp only[Option.map_some,Option.some.injEq]at hg;simpa[hg]using h
end
end Go.Ax
/- AxHeap: calls on, and loops over, heaps of a few known blocks: what is reached, renamed and put back, ar rewrite rules. -/
namespace Go.Ax
@[go_sem] theorem e0w(H:a02)(n:Nat)(acc:List Nat):a1t H n [] acc=acc.reverse:=by cases n<;>rfl
theorem c57(H:a02)(n:Nat)(b:Nat)(todo acc:List Nat):a1t H (n+1) (b::todo) acc=bif a0r acc b then a1t H n todo acc else a1t H n (a0y (a01 H b)++todo) (b::acc):=by rfl
@[go_sem] theorem e0x{n:Nat}(hn:(0<n)=True)(H:a02)(b:Nat)(todo acc:List Nat):a1t H n (b::todo) acc=bif a0r acc b then a1t H (n-1) todo acc else a1t H (n-1) (a0y (a01 H b)++todo) (b::acc):=by
 obtain⟨m,rfl⟩:∃m,n=m+1:=⟨n-1,by have:=of_eq_true hn;omega⟩
 exact c57 H m b todo acc
@[go_sem] theorem d4q(x:Nat):a0r [] x=false:=by rfl
@[go_sem] theorem d1s(a:Nat)(r:List Nat)(x:Nat):a0r (a::r) x=bif decide (a=x)then true else a0r r x:=by simp only[a0r,d1r,c49]
@[go_sem] theorem e10:a4l []=true:=by rfl
@[go_sem] theorem c1s(a:Nat)(r:List Nat):a4l (a::r)=(!(a0r r a)&&a4l r):=by rfl
@[go_sem] theorem e2w(k:Nat)(rows:List (List AV)):a0y (some (.row k rows))=rows.flatMap a0e:=by rfl
@[go_sem] theorem e2x(ks vs:List AV)(bs:List Nat)(c:Nat):a0y (some (.map ks vs bs c))=a0e ks++a0e vs:=by rfl
@[go_sem] theorem e8c(b:Nat):List.idxOf? b []=none:=by rfl
@[go_sem] theorem e5v(a:Nat)(l:List Nat)(b:Nat):List.idxOf? b (a::l)=bif decide (a=b)then some 0 else(List.idxOf? b l).map (·+ 1):=by rw[List.idxOf?_cons,c49];cases decide (a=b)<;>rfl
@[go_sem] theorem e81(σ:List Nat)(b:Nat):a7n σ b=σ.idxOf? b:=by rfl
@[go_sem] theorem e4h(σ:List Nat)(n j:Nat):a19 σ n j=bif decide (j<σ.length)then σ[j]? else some (n+(j-σ.length)):=by simp only[a19,c6v]
@[go_sem] theorem e0q(H:a02)(π:Nat→Option Nat):a44 H [] π=[]:=by rfl
@[go_sem] theorem d7g(H:a02)(b:Nat)(σ:List Nat)(π:Nat→Option Nat):a44 H (b::σ) π=(a01 H b).map (a0f π)::a44 H σ π:=by rfl
@[go_sem] theorem d67(σ:List Nat)(n:Nat)(H1:a02)(b:Nat):a16 σ n H1 b []=[]:=by rfl
def c3d(σ:List Nat)(n:Nat)(H1:a02)(o:Option AObj):Option Nat→Option AObj
 |some j=>(a01 H1 j).map (a0f (a19 σ n))
 |none=>o
@[go_sem] theorem d7x(σ:List Nat)(n:Nat)(H1:a02)(o:Option AObj)(j:Nat):c3d σ n H1 o (some j)=(a01 H1 j).map (a0f (a19 σ n)):=by rfl
@[go_sem] theorem d7y(σ:List Nat)(n:Nat)(H1:a02)(o:Option AObj):c3d σ n H1 o none=o:=by rfl
@[go_sem] theorem b9g(σ:List Nat)(n:Nat)(H1:a02)(b:Nat)(o:Option AObj)(r:a02):a16 σ n H1 b (o::r)=c3d σ n H1 o (σ.idxOf? b)::a16 σ n H1 (b+1) r:=by simp only[a16];cases σ.idxOf? b<;>rfl
@[go_sem] theorem e0u(π:Nat→Option Nat)(k:Nat)(rows:List (List AV)):a0f π (.row k rows) = .row k (rows.map λr=>r.map (ren π)):=by rfl
@[go_sem] theorem e0v(π:Nat→Option Nat)(ks vs:List AV)(bs:List Nat)(c:Nat):a0f π (.map ks vs bs c) = .map (ks.map (ren π)) (vs.map (ren π)) bs c:=by rfl
/- renaming a value -/
section
variable (π:Nat→Option Nat)
def e2r(f:Nat→AV):Option Nat→AV|some b=>f b|none=>.junk
@[go_sem] theorem e2p(f:Nat→AV)(b:Nat):e2r f (some b)=f b:=by rfl
@[go_sem] theorem e2q(f:Nat→AV):e2r f none = .junk:=by rfl
@[go_sem] theorem e7q(b i o:Nat):ren π (.ptr b i o)=e2r (λb=>.ptr b i o) (π b):=by simp only[ren];cases π b<;>rfl
@[go_sem] theorem e2o(b i o:Nat)(c:Option Nat):ren π (.slice b i o c)=e2r (λb=>.slice b i o c) (π b):=by simp only[ren];cases π b<;>rfl
@[go_sem] theorem e7r(b:Nat):ren π (.map b)=e2r (λb=>.map b) (π b):=by simp only[ren];cases π b<;>rfl
@[go_sem] theorem c81(k:IntKind)(n:Int):ren π (.int k n) = .int k n:=by rfl
@[go_sem] theorem e5e(b:Bool):ren π (.bool b) = .bool b:=by rfl
@[go_sem] theorem e7p(s:List UInt8):ren π (.str s) = .str s:=by rfl
@[go_sem] theorem e0t(r:List (List AV))(c:Option Nat):ren π (.islice r c) = .islice r c:=by rfl
@[go_sem] theorem e5d(r:List AV):ren π (.iptr r) = .iptr r:=by rfl
@[go_sem] theorem a7t:ren π .nilslice = .nilslice:=by rfl
@[go_sem] theorem e5c:ren π .junk = .junk:=by rfl
@[go_sem] theorem c1o(l:List AV):ren π (.agg l) = .agg (l.map (ren π)):=by simp only[ren,a7u]
@[go_sem] theorem d2o(f:Fn)(a b:List AV):ren π (.func f a b) = .func f (a.map (ren π)) (b.map (ren π)):=by simp only[ren,a7u]
@[go_sem] theorem e5f:b5m π []=[]:=by rfl
@[go_sem] theorem c82(s:Nat)(v:AV)(r:Frm):b5m π ((s,v)::r)=(s,ren π v)::b5m π r:=by rfl
end
@[go_sem] theorem d00(m:Nat)(σ:List Nat)(b:Nat):b50 m σ b=bif decide (b<m)then some b else(σ.idxOf? b).map (m + ·):=by simp only[b50,c6v]
theorem a03{m:Nat}{keep:List Nat}{F:Frm}{H:a02}:gcD m keep F H=bif a4l (a8t m (a1r keep F) H)&&(a8t m (a1r keep F) H).all (λb=>decide (m≤b))&&decide (m≤H.length)then
 some (b5m (b50 m (a8t m (a1r keep F) H)) (a1r keep F),gcH m (a8t m (a1r keep F) H) H)else none:=by
 have e:(λb=>Nat.ble m b)=λb=>decide (m≤b):=funext λb=>d1u m b;simp only[gcD,e,d1u]
theorem a00(m:Nat)(F:Frm)(H:a02):a8t m F H=(a1t H 1000000 ((H.take m).flatMap a0y++a0e (F.map (·.2))) []).filter λb=>decide (m≤b):=by have e:(λb=>Nat.ble m b)=λb=>decide (m≤b):=funext λb=>d1u m b;simp only[a8t,a36,e]
@[go_sem] theorem d6f(m:Nat)(σ:List Nat)(H:a02):gcH m σ H=(H.take m).map (Option.map (a0f (b50 m σ)))++a44 H σ (b50 m σ):=by rfl
@[go_sem] theorem e91{α:Type}(p:α→Bool)(a:α)(l:List α):(a::l).filter p=bif p a then a::l.filter p else l.filter p:=by rw[List.filter_cons];cases p a<;>rfl
attribute [go_sem] List.reverse_cons List.reverse_nil List.filter_nil List.flatMap_cons List.flatMap_nil
theorem a1z(run:List AV→a02→Option (AV×a02))(args:List AV)(H:a02){σ:List Nat}(hσ:a1t H 1000000 (a0e args) []=σ)(hn:a4l σ=true)(hl:(σ.all λb=>decide (b<H.length))=true)
 {args':List AV}(ha:args.map (ren (a7n σ))=args'){H0:a02}(hH:a44 H σ (a7n σ)=H0){v:AV}{H1:a02}(hr:run args' H0=some (v,H1)) :
 a2h run args H=some (ren (a19 σ H.length) v,a16 σ H.length H1 0 H++(H1.drop σ.length).map (Option.map (a0f (a19 σ H.length))),σ):=by
 have e:(λb=>Nat.blt b H.length)=λb=>decide (b<H.length):=funext λb=>c6v b H.length;unfold a2h;simp only[a36,hσ,hn,e,hl,Bool.and_self,cond_true,ha,hH,hr]
theorem a5e{E:Env}{draw:Bool}{call:CallF}{g:FuncId}{fs cs ar args:List AV}{H:a02}(hx:E.ext g=false)(hf:(E.fn g).isSome=true)(he:fs++ar++cs=args){v:AV}{H':a02}{σ:List Nat}
 (h:a2h (call g) args H=some (v,H',σ))(hl:H'.length=H.length):a0a E draw call (.func (.func g) fs cs) ar H=some (v,H',σ):=by
 have hb:Nat.ble H.length H.length=true:=by rw[Nat.ble_eq];exact Nat.le_refl _
 simp only[a0a,hx,hf,he,cond_true,cond_false,h,hl,hb,Bool.not_true,Bool.and_false]
theorem c0f{E:Env}{call:CallF}{g:FuncId}{fs cs ar args:List AV}{H:a02}(hx:E.ext g=false)(hf:(E.fn g).isSome=true)(he:fs++ar++cs=args){v:AV}{H':a02}{σ:List Nat}
 (h:a2h (call g) args H=some (v,H',σ)):a0a E false call (.func (.func g) fs cs) ar H=some (v,H',σ):=by
 simp only[a0a,hx,hf,he,cond_true,cond_false,h,Bool.false_and]
/- freezing -/
@[go_sem] theorem d89{α β:Type}(a:α)(f:α→β)(d:β):d6a (some a) f d=f a:=by rfl
@[go_sem] theorem d0g{m:Nat}{v:AV}{H:a02}:a26 false m v H=d6a (a3a m true (a4h (a01 H) m 12) v) (λv'=>some (v',(H.take m).map (Option.map (a0f (a1i m))))) (some (v,H)):=by simp only[a26,cond_false];cases a3a m true (a4h (a01 H) m 12) v<;>rfl
section
variable {m:Nat}{top:Bool}{d:AV→Option AV}{h:FHeap}{n:Nat}
@[go_sem] theorem e8j(k:IntKind)(i:Int):a3a m top d (.int k i)=some (.int k i):=by rfl
@[go_sem] theorem e61(b:Bool):a3a m top d (.bool b)=some (.bool b):=by rfl
@[go_sem] theorem e8h(s:List UInt8):a3a m top d (.str s)=some (.str s):=by rfl
@[go_sem] theorem e1a(r:List (List AV))(c:Option Nat):a3a m top d (.islice r c)=some (.islice r c):=by rfl
@[go_sem] theorem e5z(r:List AV):a3a m top d (.iptr r)=some (.iptr r):=by rfl
@[go_sem] theorem d6h:a3a m top d .nilslice=some .nilslice:=by rfl
@[go_sem] theorem e19:a3a m top d .nilptr=some .nilptr:=by rfl
@[go_sem] theorem f0u(c:Option (Option Nat))(rows:List (List AV)):a3a m top d (sl c rows)=some (sl c rows):=a0j m top d _ (a1b c rows)
@[go_sem] theorem e8k(l:List AV):a3a m top d (.agg l)=a0g (a56 m top d l) λl=>some (.agg l):=by simp only[a3a];cases a56 m top d l<;>rfl
@[go_sem] theorem e3x(l:List AV):a3a m top d (.tuple l)=a0g (a56 m top d l) λl=>some (.tuple l):=by simp only[a3a];cases a56 m top d l<;>rfl
@[go_sem] theorem e60(f:Fn)(a b:List AV):a3a m top d (.func f a b)=a0g (a56 m top d a) λa=>a0g (a56 m top d b) λb=>some (.func f a b):=by simp only[a3a];cases a56 m top d a<;>cases a56 m top d b<;>rfl
@[go_sem] theorem b81:a56 m top d []=some []:=by rfl
@[go_sem] theorem a3l(v:AV)(l:List AV):a56 m top d (v::l)=a0g (a3a m top d v) λv=>a0g (a56 m top d l) λl=>some (v::l):=by simp only[a56];cases a3a m top d v<;>cases a56 m top d l<;>rfl
@[go_sem] theorem a5w(b o l:Nat)(c:Option Nat):a3a m top d (.slice b o l c)=bif decide (b<m)then(bif top then some (.slice b o l c)else none)else d (.slice b o l c):=by simp only[a3a,d6i,c6v]
@[go_sem] theorem e8i(b o l:Nat):a3a m top d (.ptr b o l)=bif decide (b<m)then(bif top then some (.ptr b o l)else none)else d (.ptr b o l):=by simp only[a3a,d6i,c6v]
@[go_sem] theorem a4r(hn:(0<n)=True)(b o l:Nat)(c:Option Nat):a4h h m n (.slice b o l c)=a0g (a95 (h b)) λkr=>bif decide (o+l≤kr.2.length)then a0g (a9a m (a4h h m (n-1)) ((kr.2.drop o).take l)) λrs=>some (.islice rs c)else none:=by
 obtain⟨n,rfl⟩:∃k,n=k+1:=⟨n-1,by have:=of_eq_true hn;omega⟩
 simp only[a4h,Nat.add_sub_cancel];cases hb:h b with
 |none=>simp only[hb];rfl
 |some ob=>cases ob<;>simp only[hb,a95,a0g,d1u];rename_i kk rows;cases a9a m (a4h h m n) ((rows.drop o).take l)<;>rfl
@[go_sem] theorem e64(hn:(0<n)=True)(b i o:Nat):a4h h m n (.ptr b i o)=a0g (a95 (h b)) λkr=>a0g (kr.2[i]?) λr=>a0g (a56 m false (a4h h m (n-1)) (r.drop o)) λcs=>some (.iptr cs):=by
 obtain⟨n,rfl⟩:∃k,n=k+1:=⟨n-1,by have:=of_eq_true hn;omega⟩
 simp only[a4h,Nat.add_sub_cancel];cases hb:h b with
 |none=>simp only[hb];rfl
 |some ob=>
  cases ob<;>simp only[hb,a95,a0g];rename_i kk rows;cases rows[i]? with
  |none=>rfl
  |some r=>simp only;cases a56 m false (a4h h m n) (r.drop o)<;>rfl
theorem c3v:a9a m d []=some []:=by rfl
theorem b3v(r:List AV)(rs:List (List AV)):a9a m d (r::rs)=a0g (a56 m false d r) λr=>a0g (a9a m d rs) λrs=>some (r::rs):=by simp only[a9a];cases a56 m false d r<;>cases a9a m d rs<;>rfl
theorem a4q(a b:List (List AV)):a9a m d (a++b)=a0g (a9a m d a) λa=>a0g (a9a m d b) λb=>some (a++b):=by
 induction a with
 |nil=>simp only[List.nil_append,c3v,a0g];cases a9a m d b<;>rfl
 |cons x a ih=>
  simp only[List.cons_append,b3v,ih];cases a56 m false d x with
  |none=>rfl
  |some x=>simp only[a0g];cases a9a m d a<;>cases a9a m d b<;>rfl
attribute [go_sem] c3v b3v
end
/-! ### append -/
section
variable {E:Env}{h:FHeap}{n:Nat}
@[go_sem] theorem d9u(k b o l:Nat)(c:Option Nat):a25 h k (.slice b o l c)=a0g (a95 (h b)) λkr=>bif decide (kr.1=k)&&decide (o+l≤kr.2.length)then some ((kr.2.drop o).take l)else none:=by
 simp only[a25];cases hb:h b with
 |none=>simp only[hb];rfl
 |some ob=>cases ob<;>simp only[hb,a95,a0g,c49,d1u]
@[go_sem] theorem b1r(k:Nat)(rows:List (List AV))(c:Option Nat):a25 h k (.islice rows c)=bif rows.all (λr=>decide (r.length=k))then some rows else none:=by simp only[a25,c49]
@[go_sem] theorem e6e(k:Nat)(rows:List (List AV))(c:Option (Option Nat)):a25 h k (sl c rows)=bif rows.all (λr=>decide (r.length=k))then some rows else none:=by
 cases c with
 |some c=>rw[a4n];exact b1r k rows c
 |none=>cases rows with
  |nil=>rfl
  |cons a r=>exact b1r k _ none
def apT(E:Env)(st xt:TypeId):Option TypeId:=match E.und st,E.und xt with
 |some (.slice e),some dx=>bif a2o dx || !(E.zero e).isSome || !(Nat.blt 0 (E.sz e))then none else some e
 |_,_=>none
def apS(E:Env)(h:FHeap)(n:Nat)(elem:TypeId)(xs:List (List AV)):AV→Option (AV×Eff)
 |.nilslice=>match xs with
  | []=>some (.nilslice,.none)
  |y::ys=>bif a29 E elem (y::ys).length then some (.slice n 0 (y::ys).length none,.new (.row (E.sz elem) (y::ys)))else none
 |.islice rows cap=>bif rows.all (λr=>r.length==E.sz elem)then match xs with
  | []=>some (.islice rows cap,.none)
  |y::ys=>match cap with
   |some c=>bif Nat.blt c (rows.length+(y::ys).length)&&a29 E elem (rows.length+(y::ys).length)then
    some (.slice n 0 (rows.length+(y::ys).length) none,.new (.row (E.sz elem) (rows++(y::ys))))else none
   |none=>none
  else none
 |.slice b off len cap=>match h b with
  |some (.row kk rows)=>bif kk==E.sz elem&&Nat.ble (off+len) rows.length then
   match cap with
   |none=>bif a29 E elem (len+xs.length)&&xs.all (λr=>r.all AV.storable)then
    some (.slice n 0 (len+xs.length) none,.kill b (.row (E.sz elem) (bif Nat.beq (off+len) rows.length then rows.drop off++xs else(rows.drop off).take len++xs)))else none
   |some c=>bif Nat.ble (len+xs.length) c then
    bif Nat.ble (off+len+xs.length) rows.length&&xs.all (λr=>r.all AV.storable)then
     some (.slice b off (len+xs.length) (some c),.set b (.row (E.sz elem) (rows.take (off+len)++xs++rows.drop (off+len+xs.length))))else none
    else bif a29 E elem (len+xs.length)then
     some (.slice n 0 (len+xs.length) none,.new (.row (E.sz elem) ((rows.drop off).take len++xs)))else none
   else none
  |_=>none
 |_=>none
@[go_sem] theorem e4p(st xt:TypeId)(s x:AV):a4i E h n st xt s x=a0g (apT E st xt) λe=>a0g (a25 h (E.sz e) x) λxs=>apS E h n e xs s:=by
 unfold a4i apT;cases E.und st with
 |none=>rfl
 |some d=>cases E.und xt with
  |none=>cases d<;>rfl
  |some dx=>
   cases d<;>try rfl
   rename_i e;simp only;cases(a2o dx || !(E.zero e).isSome || !(Nat.blt 0 (E.sz e)))with
   |true=>rfl
   |false=>
    simp only[cond_false,a0g];cases a25 h (E.sz e) x with
    |none=>rfl
    |some xs=>cases s<;>rfl
@[go_sem] theorem e9d(e:TypeId)(y:List AV)(ys:List (List AV)):apS E h n e (y::ys) .nilslice=bif a29 E e (y::ys).length then some (.slice n 0 (y::ys).length none,.new (.row (E.sz e) (y::ys)))else none:=by rfl
@[go_sem] theorem e6h(e:TypeId):apS E h n e [] .nilslice=some (.nilslice,.none):=by rfl
@[go_sem] theorem e6i(e:TypeId)(xs:List (List AV))(b o l:Nat):apS E h n e xs (.slice b o l none)=a0g (a95 (h b)) λkr=>
 bif decide (kr.1=E.sz e)then(bif decide (o+l=kr.2.length)then(bif a29 E e (l+xs.length)&&xs.all (λr=>r.all AV.storable)then some (.slice n 0 (l+xs.length) none,.kill b (.row (E.sz e) (kr.2.drop o++xs)))else none)
  else(bif decide (o+l≤kr.2.length)&&a29 E e (l+xs.length)&&xs.all (λr=>r.all AV.storable)then some (.slice n 0 (l+xs.length) none,.kill b (.row (E.sz e) ((kr.2.drop o).take l++xs)))else none))else none:=by
 simp only[apS];cases hb:h b with
 |none=>simp only[hb];rfl
 |some ob=>
  cases ob<;>simp only[hb,a95,a0g,c49,d1u];rename_i kk rows;have e1:Nat.beq (o+l) rows.length=decide (o+l=rows.length):=by rw[d1r,c49]
  rw[e1];by_cases h1:o+l=rows.length
  ·rw[decide_eq_true h1,decide_eq_true (by omega:o+l≤rows.length)];cases decide (kk=E.sz e)<;>rfl
  ·rw[decide_eq_false h1];cases decide (kk=E.sz e)<;>cases decide (o+l≤rows.length)<;>rfl
@[go_sem] theorem e4m(e:TypeId)(xs:List (List AV))(b o l c:Nat):apS E h n e xs (.slice b o l (some c))=a0g (a95 (h b)) λkr=>
 bif decide (kr.1=E.sz e)&&decide (o+l≤kr.2.length)then(bif decide (l+xs.length≤c)then
  (bif decide (o+l+xs.length≤kr.2.length)&&xs.all (λr=>r.all AV.storable)then some (.slice b o (l+xs.length) (some c),.set b (.row (E.sz e) (kr.2.take (o+l)++xs++kr.2.drop (o+l+xs.length))))else none)
  else(bif a29 E e (l+xs.length)then some (.slice n 0 (l+xs.length) none,.new (.row (E.sz e) ((kr.2.drop o).take l++xs)))else none))else none:=by
 simp only[apS];cases hb:h b with
 |none=>simp only[hb];rfl
 |some ob=>cases ob<;>simp only[hb,a95,a0g,c49,d1u]
theorem a6e{e:TypeId}{k:Nat}(hk:k≤1000000000)(hb:E.bytes e≤1000):a29 E e k=true:=by
 unfold a29;rw[decide_eq_true (by omega),Bool.true_and,decide_eq_true_eq]
 calc E.bytes e*(2*k+192)≤1000*(2*1000000000+192):=Nat.mul_le_mul hb (by omega)
  _≤281474976710656:=by decide
end
/- The length of a block's rows, by hand. -/
@[go_sem] theorem e4z(a b:Nat):(a:Int).tmod (b:Int)=((a%b:Nat):Int):=by rfl
@[go_sem] theorem e9j(a:Nat):(a:Int).tmod 2=((a%2:Nat):Int):=by rfl
@[go_sem] theorem e9i(a:Nat):(a:Int).tmod 3=((a%3:Nat):Int):=by rfl
@[go_sem] theorem e9h(a:Nat):(a:Int).tmod 4=((a%4:Nat):Int):=by rfl
@[go_sem] theorem e9g(a:Nat):(a:Int).tmod 9=((a%9:Nat):Int):=by rfl
@[go_sem] theorem e7b(a:Nat):(a:Int).tmod 10=((a%10:Nat):Int):=by rfl
@[go_sem] theorem e7c(a:Nat):(a:Int).tdiv 10=((a/10:Nat):Int):=by rfl
@[go_sem] theorem e7a(a:Nat):(a:Int).tmod 13=((a%13:Nat):Int):=by rfl
theorem wI{n:Nat}(h:n<9223372036854775808):IntKind.i64.wrap (n:Int)=n:=w64 (by omega) (by omega)
theorem wB{n:Nat}(h:n<256):IntKind.u8.wrap (n:Int)=n:=IntWalk.u8_in _ ⟨by omega,by omega⟩
theorem wI1{n:Nat}(h:n<9223372036854775807):IntKind.i64.wrap ((n:Int)+1)=((n+1:Nat):Int):=by rw[w64 (by omega) (by omega)];rfl
theorem b5s(m b:Nat):a1i m b=bif decide (b<m)then some b else none:=by simp only[a1i,c6v]
attribute [go_sem] b5s
/-! ### bytes to a string -/
def byT(E:Env)(s d:TypeId):Bool:=match E.und s,E.und d with
 |some (.slice e),some .string=>match E.und e with|some (.int .u8)=>true|_=>false
 |_,_=>false
section
variable {E:Env}{h:FHeap}{s d:TypeId}
theorem c63{x:AV}(hb:byT E s d=true)(hx:∀t,x≠ .str t):a6w E h s d x=a0g (a25 h 1 x) λrows=>a0g (a5b rows) λl=>some (.str l):=by
 unfold byT at hb;cases hs:E.und s with
 |none=>rw[hs]at hb;cases hb
 |some ds=>
  cases hd:E.und d with
  |none=>rw[hs,hd]at hb;cases ds<;>cases hb
  |some dd=>
   rw[hs,hd]at hb;cases ds<;>first|(cases hb;done)|skip
   rename_i e;cases dd<;>first|(cases hb;done)|skip
   simp only at hb;cases he:E.und e with
   |none=>rw[he]at hb;cases hb
   |some de=>
    rw[he]at hb;cases de<;>first|(cases hb;done)|skip
    rename_i k;cases k<;>first|(cases hb;done)|skip
    unfold a6w;simp only[hs,hd,he];cases x<;>first|(exact absurd rfl (hx _))|skip
    all_goals
     simp only[a0g];cases a25 h 1 _ with
     |none=>rfl
     |some rows=>simp only;cases a5b rows<;>rfl
@[go_sem] theorem d9j{b o l:Nat}{c:Option Nat}(hb:byT E s d=true):a6w E h s d (.slice b o l c)=a0g (a25 h 1 (.slice b o l c)) λrows=>a0g (a5b rows) λl=>some (.str l):=c63 hb (λ_ h=>by cases h)
@[go_sem] theorem e1s:a5b []=some []:=by rfl
@[go_sem] theorem e0a(n:Int)(r:List (List AV)):a5b ([.int .u8 n]::r)=a0g (a5b r) λl=>some (UInt8.ofNat n.toNat::l):=by simp only[a5b];cases a5b r<;>rfl
end
@[go_sem] theorem e66{r:List AV}{n:Nat}(h:a0e r=[]):(List.replicate n r).flatMap a0e=[]:=a08 (FlatR.replicate h)
attribute [go_sem] List.length_replicate List.map_replicate List.length_append List.flatMap_append List.map_append
/-! ### calls that only read -/
def FlatO(o:Option AObj):Prop:=∀π,o.map (a0f π)=o
theorem FlatO.row{k:Nat}{rows:List (List AV)}(h:FlatR rows):FlatO (some (.row k rows)):=λπ=>by simp only[Option.map_some,a0f,a06 π h]
theorem d1o(f:Nat→Option AObj)(σ:List Nat)(j:Nat):a01 (σ.map f) j=(σ[j]?).bind f:=by simp only[a01,List.getElem?_map];cases σ[j]?<;>simp
theorem b1h{σ:List Nat}{n:Nat}{H:a02}(hf:∀b∈σ,FlatO (a01 H b)):∀(b:Nat) (H2:a02),(∀i,H2[i]?=H[b+i]?)→a16 σ n (σ.map (a01 H)) b H2=H2
 |_,[],_=>rfl
 |b,o::r,hh=>by
  have ih:=b1h hf (n:=n) (b+1) r (λi=>by
   have:=hh (i+1);rw[List.getElem?_cons_succ]at this;rw[this]
   congr 1
   omega)
  simp only[a16,ih]
  congr 1
  cases hx:σ.idxOf? b with
  |none=>rfl
  |some j=>simp only;have hj:=a2a hx;have hm:b∈σ:=List.mem_of_getElem? hj;rw[d1o,hj];simp only[Option.bind_some];rw[hf b hm _];have h0:=hh 0;simp only[List.getElem?_cons_zero,Nat.add_zero]at h0;simp[a01,←h0]
theorem c6d{E:Env}{draw:Bool}{call:CallF}{g:FuncId}{fs cs ar args:List AV}{H:a02}{v:AV}(σ:List Nat)(hx:E.ext g=false)(hf:(E.fn g).isSome=true)(he:fs++ar++cs=args)
 (hσ:a1t H 1000000 (a0e args) []=σ)(hn:a4l σ=true)(hl:(σ.all λb=>decide (b<H.length))=true)(hfl:∀b∈σ,FlatO (a01 H b))
 {args':List AV}(ha:args.map (ren (a7n σ))=args'){H0:a02}(hH:σ.map (a01 H)=H0)(hr:call g args' H0=some (v,H0))(hv:refs v=[]) :
 a0a E draw call (.func (.func g) fs cs) ar H=some (v,H,σ):=by
 have hs:a44 H σ (a7n σ)=H0:=by rw[←hH];unfold a44;exact List.map_congr_left λb hb=>hfl b hb _
 have hc:=a1z (call g) args H hσ hn hl ha hs hr;have e1:ren (a19 σ H.length) v=v:=a0d _ v hv;have e2:a16 σ H.length H0 0 H=H:=by rw[←hH];exact b1h hfl 0 H (λi=>by rw[Nat.zero_add])
 have e3:H0.drop σ.length=[]:=by rw[←hH];simp
 rw[e1,e2,e3,List.map_nil,List.append_nil]at hc;exact a5e hx hf he hc rfl
end Go.Ax
/- AxMore: facts that all say 'true'; loops over any states; what a heap's values a1t. -/
namespace Go.Ax
/-! ### what is reached -/
theorem b93{f:Nat→Nat}:∀{L:List Nat} {b:Nat},b∈L→(L.map f).sum=f b+((L.erase b).map f).sum
 | [],b,h=>by simp at h
 |a::L,b,h=>by
  by_cases hab:a=b
  ·subst hab;simp
  ·have hb:b∈L:=by simpa[Ne.symm hab]using h
   rw[List.erase_cons_tail (by simpa using hab)];simp only[List.map_cons,List.sum_cons,b93 hb];omega
structure Reached(H:a02)(init σ:List Nat):Prop where
 nodup:σ.Nodup
 start:∀b∈init,b∈σ
 closed:∀b∈σ,∀c∈a0y (a01 H b),c∈σ
 least:∀T:Nat→Prop,(∀b∈init,T b)→(∀b,T b→∀c∈a0y (a01 H b),T c)→∀b∈σ,T b
theorem b7f(H:a02):∀(n:Nat) (todo acc L:List Nat),acc.Nodup→(∀b∈acc,∀c∈a0y (a01 H b),c∈acc∨c∈todo)→(∀b∈todo,b∈acc∨b∈L)→(∀b∈L,∀c∈a0y (a01 H b),c∈acc∨c∈L)→
 todo.length+(L.map λb=>(a0y (a01 H b)).length).sum<n→
 (a1t H n todo acc).Nodup∧(∀b∈acc,b∈a1t H n todo acc)∧(∀b∈todo,b∈a1t H n todo acc)∧(∀b∈a1t H n todo acc,∀c∈a0y (a01 H b),c∈a1t H n todo acc)∧
 ∀T:Nat→Prop,(∀b∈acc,T b)→(∀b∈todo,T b)→(∀b,T b→∀c∈a0y (a01 H b),T c)→∀b∈a1t H n todo acc,T b
 |0,todo,acc,L,_,_,_,_,hn=>by omega
 |n+1,[],acc,L,h1,h2,h3,h4,hn=>by
  unfold a1t;refine⟨List.pairwise_reverse.2 (h1.imp λh=>Ne.symm h),by simp,by simp,?_,?_⟩
  ·intro b hb c hc;rcases h2 b (by simpa using hb) c hc with h|h
   ·simpa using h
   ·simp at h
  ·intro T t1 t2 t3 b hb;exact t1 b (by simpa using hb)
 |n+1,b::todo,acc,L,h1,h2,h3,h4,hn=>by
  unfold a1t;cases hc:a0r acc b with
  |true=>
   have hb:b∈acc:=a1v.1 hc;simp only[cond_true];obtain⟨r1,r2,r3,r4,r5⟩:=b7f H n todo acc L h1 (λx hx c hcc=>by
    rcases h2 x hx c hcc with h|h
    ·exact .inl h
    ·simp only[List.mem_cons]at h;rcases h with rfl|h
     ·exact .inl hb
     ·exact .inr h) (λx hx=>h3 x (by simp[hx])) h4 (by simp only[List.length_cons]at hn;omega)
   refine⟨r1,r2,?_,r4,?_⟩
   ·intro x hx;simp only[List.mem_cons]at hx;rcases hx with rfl|hx
    ·exact r2 _ hb
    ·exact r3 x hx
   ·intro T t1 t2 t3;exact r5 T t1 (λx hx=>t2 x (by simp[hx])) t3
  |false=>
   have hb:b∉acc:=λh=>by rw[a1v.2 h]at hc;cases hc
   simp only[cond_false];have hbL:b∈L:=(h3 b (by simp)).resolve_left hb;have hs:=b93 (f:=λb=>(a0y (a01 H b)).length) hbL;obtain⟨r1,r2,r3,r4,r5⟩:=b7f H n (a0y (a01 H b)++todo) (b::acc) (L.erase b) (List.nodup_cons.2 ⟨hb,h1⟩) (λx hx c hcc=>by
    simp only[List.mem_cons]at hx⊢;rcases hx with rfl|hx
    ·exact .inr (by simp[hcc])
    ·rcases h2 x hx c hcc with h|h
     ·exact .inl (.inr h)
     ·simp only[List.mem_cons]at h;rcases h with rfl|h
      ·exact .inl (.inl rfl)
      ·exact .inr (by simp[h])) (λx hx=>by
    have hx':x∈acc∨x∈L:=by
     rw[List.mem_append]at hx;rcases hx with hx|hx
     ·exact h4 b hbL x hx
     ·exact h3 x (by simp[hx])
    by_cases hxb:x=b
    ·exact .inl (by simp[hxb])
    ·rcases hx' with h|h
     ·exact .inl (by simp[h])
     ·exact .inr ((List.mem_erase_of_ne hxb).2 h)) (λx hx c hcc=>by
    have:=h4 x (List.mem_of_mem_erase hx) c hcc;by_cases hxb:c=b
    ·exact .inl (by simp[hxb])
    ·rcases this with h|h
     ·exact .inl (by simp[h])
     ·exact .inr ((List.mem_erase_of_ne hxb).2 h)) (by
    simp only[List.length_cons]at hn;rw[hs]at hn;simp only[List.length_append];omega)
   refine⟨r1,λx hx=>r2 x (by simp[hx]),?_,r4,?_⟩
   ·intro x hx;simp only[List.mem_cons]at hx;rcases hx with rfl|hx
    ·exact r2 _ (by simp)
    ·exact r3 x (by simp[hx])
   ·intro T t1 t2 t3;refine r5 T ?_ ?_ t3
    ·intro x hx;simp only[List.mem_cons]at hx;rcases hx with rfl|hx
     ·exact t2 _ (by simp)
     ·exact t1 x hx
    ·intro x hx;rw[List.mem_append]at hx;rcases hx with hx|hx
     ·exact t3 b (t2 b (by simp)) x hx
     ·exact t2 x (by simp[hx])
theorem c56{H:a02}{init:List Nat}(S:List Nat)(h1:∀b∈init,b∈S)(h2:∀b∈S,∀c∈a0y (a01 H b),c∈S)
 (hn:init.length+(S.map λb=>(a0y (a01 H b)).length).sum<1000000):Reached H init (a1t H 1000000 init []):=by
 obtain⟨r1,_,r3,r4,r5⟩:=b7f H 1000000 init [] S List.nodup_nil (λb hb=>by simp at hb) (λb hb=>.inr (h1 b hb)) (λb hb c hc=>.inr (h2 b hb c hc)) hn;exact⟨r1,r3,r4,λT t1 t2=>r5 T (λb hb=>by simp at hb) t1 t2⟩
theorem a9t:∀{l:List Nat},l.Nodup→a4l l=true
 | [],_=>rfl
 |a::l,h=>by
  rw[List.nodup_cons]at h;have hc:a0r l a=false:=by
   cases hc:a0r l a with
   |false=>rfl
   |true=>exact absurd (a1v.1 hc) h.1
  rw[c1s,hc,a9t h.2];rfl
structure Gc(m:Nat)(F:Frm)(H:a02)(R:Nat→Prop)(π:Nat→Option Nat)(H1:a02):Prop where
 low:∀b,b<m→π b=some b
 inj:∀a b c,π a=some c→π b=some c→a=b
 refs:∀b∈a0e (F.map (·.2)),R b
 lows:∀b,b<m→∀c∈a0y (a01 H b),R c
 closed:∀b,R b→∀c∈a0y (a01 H b),R c
 least:∀T:Nat→Prop,(∀b∈a0e (F.map (·.2)),T b)→(∀b,b<m→∀c∈a0y (a01 H b),T c)→(∀b,T b→∀c∈a0y (a01 H b),T c)→∀b,R b→T b
 here:∀b,R b→∃c,π b=some c
 heap:∀b c,π b=some c→a01 H1 c=(a01 H b).map (a0f π)
 len:∀T:List Nat,(∀b,R b→m≤b→b∈T)→H1.length≤m+T.length
theorem b7n{m:Nat}{H:a02}{c:Nat}:c∈(H.take m).flatMap a0y↔∃b,b<m∧c∈a0y (a01 H b):=by
 simp only[List.mem_flatMap];constructor
 ·rintro⟨o,ho,hc⟩
  obtain⟨b,hb⟩:=List.mem_iff_getElem?.1 ho;rw[List.getElem?_take]at hb;split at hb
  case isFalse=>cases hb
  rename_i hlt;refine⟨b,hlt,?_⟩;simp only[a01,hb,Option.join_some];exact hc
 ·rintro⟨b,hlt,hc⟩
  cases hb:H[b]? with
  |none=>simp[a01,hb,a0y]at hc
  |some o=>refine⟨o,List.mem_iff_getElem?.2 ⟨b,by rw[List.getElem?_take,if_pos hlt,hb]⟩,?_⟩;simpa[a01,hb]using hc
theorem b3i:∀{l T:List Nat},l.Nodup→(∀b∈l,b∈T)→l.length≤T.length
 | [],_,_,_=>by simp
 |a::l,T,hnd,hsub=>by rw[List.nodup_cons]at hnd;have ha:a∈T:=hsub a (by simp);have:=b3i (l:=l) (T:=T.erase a) hnd.2 (λb hb=>(List.mem_erase_of_ne (λe=>hnd.1 (by rw[←e];exact hb))).2 (hsub b (by simp[hb])));rw[List.length_erase_of_mem ha]at this;have:0<T.length:=List.length_pos_of_mem ha;simp only[List.length_cons];omega
theorem c9z{m:Nat}{keep:List Nat}{F:Frm}{H:a02}(hm:m≤H.length)(S:List Nat)(h1:∀b∈a0e ((a1r keep F).map (·.2)),b∈S)(h2:∀b,b<m→∀c∈a0y (a01 H b),c∈S)(h3:∀b∈S,∀c∈a0y (a01 H b),c∈S)
 (hn:((H.take m).flatMap a0y).length+(a0e ((a1r keep F).map (·.2))).length+(S.map λb=>(a0y (a01 H b)).length).sum<1000000) :
 ∃(R:Nat→Prop) (π:Nat→Option Nat) (H1:a02),gcD m keep F H=some (b5m π (a1r keep F),H1)∧Gc m (a1r keep F) H R π H1∧m≤H1.length:=by
 have hr:=c56 (H:=H) (init:=(H.take m).flatMap a0y++a0e ((a1r keep F).map (·.2))) S (λb hb=>by
  rw[List.mem_append]at hb;rcases hb with hb|hb
  ·obtain⟨a,ha,hc⟩:=b7n.1 hb;exact h2 a ha b hc
  ·exact h1 b hb) h3 (by rw[List.length_append];exact hn)
 generalize hρ:a1t H 1000000 ((H.take m).flatMap a0y++a0e ((a1r keep F).map (·.2))) []=ρ at hr;have hσ:a8t m (a1r keep F) H=ρ.filter λb=>decide (m≤b):=by rw[a00,hρ]
 have hnd:(ρ.filter λb=>decide (m≤b)).Nodup:=hr.nodup.filter _;have hmem:∀b,b∈(ρ.filter λb=>decide (m≤b))↔b∈ρ∧m≤b:=λb=>by rw[List.mem_filter];simp
 have hml:(H.take m).length=m:=by simp;omega
 have hlen:(gcH m (ρ.filter λb=>decide (m≤b)) H).length=m+(ρ.filter λb=>decide (m≤b)).length:=by rw[d6f];simp[a44];omega
 refine⟨(·∈ρ),b50 m (ρ.filter λb=>decide (m≤b)),gcH m (ρ.filter λb=>decide (m≤b)) H,?_,?_,by rw[hlen];omega⟩
 ·rw[a03,hσ,a9t hnd,decide_eq_true hm];have:(ρ.filter λb=>decide (m≤b)).all (λb=>decide (m≤b))=true:=by
   rw[List.all_eq_true];intro b hb;simpa using((hmem b).1 hb).2
  rw[this];rfl
 ·have hπ:∀b,b50 m (ρ.filter λb=>decide (m≤b)) b=if b<m then some b else((ρ.filter λb=>decide (m≤b)).idxOf? b).map (m + ·):=by
   intro b;rw[d00];by_cases h:b<m<;>simp[h]
  refine⟨λb hb=>by rw[hπ,if_pos hb],?_,λb hb=>hr.start b (by simp[hb]),λb hb c hc=>hr.start c (by rw[List.mem_append];exact .inl (b7n.2 ⟨b,hb,hc⟩)),λb hb c hc=>hr.closed b hb c hc,?_,?_,?_,?_⟩
  ·intro a b c ha hb;rw[hπ]at ha hb;split at ha<;>split at hb
   ·cases ha;cases hb;rfl
   ·cases ha;obtain⟨j,hj,e⟩:=a05 hb;omega
   ·cases hb;obtain⟨j,hj,e⟩:=a05 ha;omega
   ·obtain⟨i,hi,e1⟩:=a05 ha;obtain⟨j,hj,e2⟩:=a05 hb;have g1:=a2a hi;have g2:=a2a hj;obtain rfl:i=j:=by omega
    rw[g1]at g2;exact z9o g2
  ·intro T t1 t2 t3 b hb;refine hr.least T (λx hx=>?_) t3 b hb;rw[List.mem_append]at hx;rcases hx with hx|hx
   ·obtain⟨a,ha,hc⟩:=b7n.1 hx;exact t2 a ha x hc
   ·exact t1 x hx
  ·intro b hb;rw[hπ];split
   ·exact⟨_,rfl⟩
   ·rename_i h;have hbf:=(hmem b).2 ⟨hb,by omega⟩;obtain⟨j,hj⟩:=List.mem_iff_getElem?.1 hbf;rw[a69 hnd hj];exact⟨_,rfl⟩
  ·intro b c hbc;have hbc':=hbc;rw[hπ]at hbc';rw[d6f];split at hbc'
   ·rename_i h;cases hbc';simp only[a01];rw[List.getElem?_append_left (by simp;omega),List.getElem?_map,List.getElem?_take,if_pos h];cases H[b]? with
    |none=>rfl
    |some o=>rfl
   ·rename_i h;obtain⟨j,hj,rfl⟩:=a05 hbc';have hg:=a2a hj;simp only[a01];rw[List.getElem?_append_right (by simp only[List.length_map,hml];omega)];simp only[List.length_map,hml,Nat.add_sub_cancel_left,a44,List.getElem?_map,hg,Option.map_some,Option.join_some];rfl
  ·intro T hT;rw[hlen];have:(ρ.filter λb=>decide (m≤b)).length≤T.length:=by
    have hsub:∀b∈(ρ.filter λb=>decide (m≤b)),b∈T:=λb hb=>hT b ((hmem b).1 hb).1 ((hmem b).1 hb).2;exact b3i hnd hsub
   omega
end Go.Ax
/- AxSup: closed runs over facts of calls, a3t a given fact. -/
namespace Go.Ax
def a1l(E:Env)(x:Fact):Prop:=sem E [] x.g x.args []=some (x.v,[])
theorem c38{E:Env}{g:FuncId}{args:List AV}{v:AV}:∀{M:List Fact},(∀x∈M,a1l E x)→e2l M g args=some v→sem E [] g args []=some (v,[])
 | [],_,h=>by simp[e2l]at h
 |x::r,hM,h=>by
  simp only[e2l,cond_eq_ite]at h;split at h
  ·rename_i hc;simp only[Bool.and_eq_true,Nat.beq_eq]at hc;cases h;have:=hM x (by simp);obtain⟨g',a',v'⟩:=x;simp only at hc this;have h1:=hc.1;have h2:=b6j _ _ hc.2;subst h1;subst h2;exact this
  ·exact c38 (λx hx=>hM x (by simp[hx])) h
theorem b2s{E:Env}{c:CallF}(hc:CallF.le c (sem E []))(lf:Nat):CallF.le (a9q E c lf) (sem E []):=λg args H r h=>b75 (λ_ h=>by cases h) lf (b0l hc (Nat.le_refl lf) h)
theorem b3b{E:Env}{M:List Fact}(hM:∀x∈M,a1l E x):∀n,CallF.le (c8t E M n) (sem E [])
 |0=>λg args H r h=>by simp[c8t]at h
 |n+1=>λg args H r h=>by
  have h:e87 M (a9q E (c8t E M n) (n+1)) g args H=some r:=h;unfold e87 at h;split at h
  ·split at h
   ·rename_i v hs;cases h;exact c38 hM hs
   ·exact b2s (b3b hM n) _ _ _ _ _ h
  ·exact b2s (b3b hM n) _ _ _ _ _ h
theorem a0o{E:Env}{M:List Fact}(hM:∀x∈M,a1l E x)(n:Nat){g:Nat}{args:List AV}{v:AV}(h:a9q E (c8t E M n) n g args []=some (v,[])):a1l E ⟨g,args,v⟩:=b2s (b3b hM n) n _ _ _ _ h
theorem a0n{E:Env}:∀x∈([]:List Fact),a1l E x:=by simp
theorem a11{E:Env}{x:Fact}{M:List Fact}(hx:a1l E x)(hM:∀x∈M,a1l E x):∀y∈x::M,a1l E y:=by
 intro y hy;simp only[List.mem_cons]at hy;rcases hy with rfl|hy
 ·exact hx
 ·exact hM y hy
end Go.Ax
/- AxGrow: grown slices; calls that read one block. -/
namespace Go.Ax
def grV(b:Nat):List (List AV)→AV|[]=>.nilslice|_::rs=>.slice b 0 (rs.length+1) none
def grH(k:Nat):List (List AV)→a02|[]=>[]|r::rs=>[some (.row k (r::rs))]
theorem a0t(b:Nat):grV b [] = .nilslice:=by rfl
theorem a0u(k:Nat):grH k []=[]:=by rfl
theorem a0b(b:Nat)(r:List AV)(rs:List (List AV)):grV b (r::rs) = .slice b 0 (rs.length+1) none:=by rfl
theorem a0c(k:Nat)(r:List AV)(rs:List (List AV)):grH k (r::rs)=[some (.row k (r::rs))]:=by rfl
theorem c3r(b:Nat)(l:List (List AV))(x:List AV):grV b (l++[x]) = .slice b 0 (l.length+1) none:=by cases l<;>simp[grV]
theorem d43(k:Nat)(l:List (List AV))(x:List AV):grH k (l++[x])=[some (.row k (l++[x]))]:=by cases l<;>simp[grH]
theorem a7i(b:Nat){l:List (List AV)}(h:l≠[]):grV b l = .slice b 0 l.length none:=by cases l with|nil=>exact absurd rfl h|cons a r=>rfl
theorem a7j(k:Nat){l:List (List AV)}(h:l≠[]):grH k l=[some (.row k l)]:=by cases l with|nil=>exact absurd rfl h|cons a r=>rfl
theorem b9d{H:a02}{b:Nat}(hr:a0y (a01 H b)=[]):a1t H 1000000 [b] []=[b]:=by
 have e1:∀n,a1t H (n+2) [b] []=[b]:=by intro n;unfold a1t;simp only[a0r,cond_false,hr,List.append_nil];unfold a1t;rfl
 exact e1 999998
theorem a30{E:Env}{draw:Bool}{call:CallF}{g:FuncId}{fs cs ar args:List AV}{H:a02}{v:AV}{b:Nat}{o:AObj}(hx:E.ext g=false)(hf:(E.fn g).isSome=true)(he:fs++ar++cs=args)
 (hb:a01 H b=some o)(ho:a0y (some o)=[])(hfl:FlatO (some o))(hargs:a0e args=[b]){args':List AV}(ha:args.map (ren (a7n [b]))=args')(hr:call g args' [some o]=some (v,[some o]))(hv:refs v=[]) :
 a0a E draw call (.func (.func g) fs cs) ar H=some (v,H,[b]):=by
 have hlt:b<H.length:=by
  unfold a01 at hb;cases hh:H[b]? with
  |none=>rw[hh]at hb;cases hb
  |some x=>exact(List.getElem?_eq_some_iff.1 hh).1
 refine c6d [b] hx hf he (by rw[hargs];exact b9d (by rw[hb];exact ho)) rfl (by simpa using hlt) ?_ ha (by simp only[List.map_cons,List.map_nil,hb]) hr hv;intro c hc;simp only[List.mem_singleton]at hc;subst hc;rw[hb];exact hfl
theorem a0m{k:Nat}{rows:List (List AV)}(h:FlatR rows):a0y (some (.row k rows))=[]:=by simp only[a0y];exact a08 h
theorem a1c{H:a02}{b:Nat}{o:AObj}(hb:a01 H b=some o):b<H.length:=by
 unfold a01 at hb;cases hh:H[b]? with
 |none=>rw[hh]at hb;cases hb
 |some x=>exact(List.getElem?_eq_some_iff.1 hh).1
theorem a8g{H:a02}{b:Nat}{o:AObj}(hb:a01 H b=some o):H.set b (some o)=H:=by have hlt:=a1c hb;unfold a01 at hb;rw[z9e hlt]at hb;simp only[Option.join_some]at hb;rw[←hb];exact List.set_getElem_self hlt
theorem b2y(b n:Nat)(o:Option AObj)(ho:∀π,o.map (a0f π)=o):∀(s:Nat) (H:a02),s≤b→a16 [b] n [o] s H=H.set (b-s) o
 |s,[],_=>by simp[a16]
 |s,x::H,hs=>by
  simp only[a16];by_cases hsb:s=b
  ·subst hsb;have e:([s]:List Nat).idxOf? s=some 0:=by simp[List.idxOf?_cons]
   have hrest:∀(t:Nat) (H:a02),s<t→a16 [s] n [o] t H=H:=by
    intro t H
    induction H generalizing t with
    |nil=>intro _;rfl
    |cons y H ih=>
     intro ht;have e2:([s]:List Nat).idxOf? t=none:=by simp[List.idxOf?_cons];omega
     simp only[a16,e2,ih (t+1) (by omega)]
   simp only[e,hrest (s+1) H (by omega),Nat.sub_self,List.set_cons_zero]
   congr 1
   exact ho _
  ·have e:([b]:List Nat).idxOf? s=none:=by simp[List.idxOf?_cons];omega
   have e2:b-s=(b-(s+1))+1:=by omega
   rw[e2,List.set_cons_succ];simp only[e,b2y b n o ho (s+1) H (by omega)]
theorem a40{E:Env}{draw:Bool}{call:CallF}{g:FuncId}{fs cs ar args:List AV}{H:a02}{v v':AV}{b:Nat}{o o':AObj}(hx:E.ext g=false)(hf:(E.fn g).isSome=true)(he:fs++ar++cs=args)
 (hb:a01 H b=some o)(ho:a0y (some o)=[])(hfl:FlatO (some o))(hargs:a0e args=[b]){args':List AV}(ha:args.map (ren (a7n [b]))=args')(hr:call g args' [some o]=some (v,[some o']))(hfl':FlatO (some o'))(hv:ren (a19 [b] H.length) v=v') :
 a0a E draw call (.func (.func g) fs cs) ar H=some (v',H.set b (some o'),[b]):=by
 have hlt:=a1c hb;have hc:=a1z (call g) args H (σ:=[b]) (by rw[hargs];exact b9d (by rw[hb];exact ho)) rfl (by simpa using hlt) ha (H0:=[some o]) (by simp only[a44,List.map_cons,List.map_nil,hb];congr 1;exact hfl _) hr;rw[hv,b2y b _ _ hfl' 0 H (Nat.zero_le _)]at hc;simp only[Nat.sub_zero,List.drop_succ_cons,List.drop_zero,List.map_nil,List.append_nil,List.length_cons,List.length_nil]at hc;exact a5e hx hf he hc (by simp)
theorem a1y(b o l:Nat)(c:Option Nat):ren (a7n [b]) (.slice b o l c) = .slice 0 o l c:=by simp[ren,a7n]
theorem a4t(b o n l:Nat)(c:Option Nat):ren (a19 [b] n) (.slice 0 o l c) = .slice b o l c:=by rfl
/-! ### slices of slices -/
def inB(i:Int)(n:Nat):Bool:=decide (0≤i)&&decide (i≤(n:Int))
@[go_sem] theorem e8b(a n:Nat):inB (a:Int) n=decide (a≤n):=by unfold inB;rw[decide_eq_true (by omega),Bool.true_and,Bool.eq_iff_iff,decide_eq_true_eq,decide_eq_true_eq];omega
@[go_sem] theorem f4x(n:Nat):inB 0 n=true:=by simp[inB]
theorem b8q{k:IntKind}{i:Int}{n d:Nat}:a1a (some (.int k i)) n d=bif inB i n then some i.toNat else none:=by rfl
attribute [go_sem] Option.map_some Option.map_none
section
variable {E:Env}{h:FHeap}{t:TypeId}
theorem b8h{x:AV}{lo hi mx:Option AV}(hs:slT E t=none)(hx:∀s,x≠ .str s)(hy:∀cs,x≠ .iptr cs:=by intro _ h;cases h):a55 E h t x lo hi mx=none:=by
 unfold a55;unfold slT at hs;cases hu:E.und t with
 |none=>rfl
 |some d=>rw[hu]at hs;cases d<;>first|(cases hs;done)|(cases x<;>first|rfl|exact absurd rfl (hx _)|exact absurd rfl (hy _))
@[go_sem] theorem d9t{k k':IntKind}{i j:Int}:a55 E h t .nilslice none (some (.int k i)) (some (.int k' j))=a0g (slT E t) λe=>bif isT E e&&inB j 0&&inB i j.toNat then some .nilslice else none:=by
 cases hs:slT E t with
 |none=>exact b8h hs (λ_ h=>by cases h)
 |some e=>simp only[a55,a45.1 hs,a0g,b8q,isT];cases(E.und e).isSome<;>cases inB j 0<;>first|rfl|(simp only[cond_true,Bool.true_and];cases inB i j.toNat<;>rfl)
@[go_sem] theorem e1k{b o n:Nat}{c:Option Nat}{k k':IntKind}{i j:Int}:a55 E h t (.slice b o n c) none (some (.int k i)) (some (.int k' j))=a0g (slT E t) λe=>a0g (a95 (h b)) λkr=>bif isT E e&&decide (kr.1=E.sz e)&&inB j (a1s n c)&&inB i j.toNat then some (.slice b o i.toNat (some j.toNat))else none:=by
 cases hs:slT E t with
 |none=>exact b8h hs (λ_ h=>by cases h)
 |some e=>
  simp only[a55,a45.1 hs,a0g,b8q,isT];cases hb:h b with
  |none=>cases(E.und e).isSome<;>rfl
  |some ob=>cases ob with
   |map=>cases(E.und e).isSome<;>rfl
   |siter=>cases(E.und e).isSome<;>rfl
   |uset=>cases(E.und e).isSome<;>rfl
   |miter=>cases(E.und e).isSome<;>rfl
   |yloop=>cases(E.und e).isSome<;>rfl
   |row kk rows=>simp only[a95,c49];cases(E.und e).isSome<;>cases decide (kk=E.sz e)<;>cases inB j (a1s n c)<;>first|rfl|(simp only[cond_true,Bool.true_and];cases inB i j.toNat<;>rfl)
@[go_sem] theorem e1j{b o n:Nat}{c:Option Nat}{k:IntKind}{j:Int}:a55 E h t (.slice b o n c) none (some (.int k j)) none=a0g (slT E t) λe=>a0g (a95 (h b)) λkr=>bif isT E e&&decide (kr.1=E.sz e)&&inB j (a1s n c)then some (.slice b o j.toNat c)else none:=by
 cases hs:slT E t with
 |none=>exact b8h hs (λ_ h=>by cases h)
 |some e=>
  have hc:c.map (λx=>x-0)=c:=by cases c<;>rfl
  simp only[a55,a45.1 hs,a0g,b8q,isT];cases hb:h b with
  |none=>cases(E.und e).isSome<;>rfl
  |some ob=>cases ob with
   |map=>cases(E.und e).isSome<;>rfl
   |siter=>cases(E.und e).isSome<;>rfl
   |uset=>cases(E.und e).isSome<;>rfl
   |miter=>cases(E.und e).isSome<;>rfl
   |yloop=>cases(E.und e).isSome<;>rfl
   |row kk rows=>simp only[a95,c49];have e0:∀m,a1a (none:Option AV) m 0=some 0:=λ_=>rfl;cases(E.und e).isSome<;>cases decide (kk=E.sz e)<;>cases inB j (a1s n c)<;>first|rfl|(simp only[cond_true,Bool.true_and,e0,hc];rfl)
end
attribute [go_sem] Nat.le_refl Int.toNat_natCast
@[go_sem] theorem d5u{α β:Type}(f:α→β)(l:List α):(l.map f).take l.length=l.map f:=by rw[←List.length_map (f:=f),List.take_length]
attribute [go_sem] List.take_length
@[go_sem] theorem d0x(n c:Nat):a1s n (some c)=c:=by rfl
@[go_sem] theorem d0y(n:Nat):a1s n none=n:=by rfl
end Go.Ax
/- AxMelt: calls over flat arguments that return a pointer to a block of their own. -/
namespace Go.Ax
theorem c6f{E:Env}{call:CallF}{g:FuncId}{fs cs ar args:List AV}{H:a02}{k:Nat}{rows:List (List AV)}(hx:E.ext g=false)(hf:(E.fn g).isSome=true)(he:fs++ar++cs=args)(hargs:a0e args=[])(hr:call g args []=some (.ptr 0 0 0,[some (.row k rows)]))(hfl:FlatR rows) :
 a0a E false call (.func (.func g) fs cs) ar H=some (.ptr H.length 0 0,H++[some (.row k rows)],[]):=by
 have hc:=a1z (call g) args H (σ:=[]) (by rw[hargs];rfl) rfl rfl (args':=args) (a35 _ hargs) (H0:=[]) rfl hr;have hp:∀(s:Nat) (H:a02),a16 [] H.length [some (AObj.row k rows)] s H=H:=by
  intro s H;have:∀(n s:Nat) (H:a02),a16 [] n [some (AObj.row k rows)] s H=H:=by
   intro n s H
   induction H generalizing s with
   |nil=>rfl
   |cons x H ih=>simp[a16,ih]
  exact this _ _ _
 rw[hp]at hc;have h1:=λπ=>a06 π hfl;have hb:ren (a19 [] H.length) (.ptr 0 0 0) = .ptr H.length 0 0:=rfl;rw[hb]at hc;simp only[List.length_nil,List.drop_zero,List.map_cons,List.map_nil,Option.map_some,a0f,h1]at hc;exact c0f hx hf he hc
@[go_sem] theorem d9b{v:AV}{H:a02}:a26 true 0 v H=d8g 0 v H:=by rfl
@[go_sem] theorem e5o{m b i o:Nat}{H:a02}:d8g m (.ptr b i o) H=bif decide (m≤b)then a0g (a95 (a01 H b)) λkr=>a0g (frzT m (a4h (a3t (a01 H) b) m 12) kr.2) λrows'=>some (.ptr m i o,(H.take m).map (Option.map (a0f (a1i m)))++[some (.row kr.1 rows')])else none:=by
 have e:Nat.ble m b=decide (m≤b):=by rw[Bool.eq_iff_iff,Nat.ble_eq,decide_eq_true_eq]
 simp only[d8g,e];cases decide (m≤b)with
 |false=>rfl
 |true=>
  simp only[cond_true];cases h:a01 H b with
  |none=>rfl
  |some ob=>cases ob with
   |row k rows=>simp only[a95,a0g];cases frzT m (a4h (a3t (a01 H) b) m 12) rows<;>rfl
   |map=>rfl
   |siter=>rfl
   |uset=>rfl
   |miter=>rfl
   |yloop=>rfl
@[go_sem] theorem e3e{m:Nat}{H:a02}:d8g m .nilslice H=some (.nilslice,(H.take m).map (Option.map (a0f (a1i m)))):=by rfl
@[go_sem] theorem e62{m:Nat}{d:AV→Option AV}:frzT m d []=some []:=by rfl
@[go_sem] theorem e3y{m:Nat}{d:AV→Option AV}{r:List AV}{rs:List (List AV)}:frzT m d (r::rs)=a0g (a56 m true d r) λr'=>a0g (frzT m d rs) λrs'=>some (r'::rs'):=by
 simp only[frzT];cases a56 m true d r with
 |none=>rfl
 |some r'=>cases frzT m d rs<;>rfl
@[go_sem] theorem e0j{h:FHeap}{b x:Nat}:a3t h b x=bif decide (x=b)then none else h x:=by
 unfold a3t;by_cases hx:x=b
 ·subst hx;rw[show Nat.beq x x=true from Nat.beq_refl x,decide_eq_true rfl]
 ·rw[decide_eq_false hx];cases hq:Nat.beq x b with
  |false=>rfl
  |true=>exact absurd (Nat.eq_of_beq_eq_true hq) hx
theorem b5q{n:Nat}{H1:a02}:∀(R:a02) (s:Nat),2≤s→a16 [0,1] n H1 s R=R
 | [],s,_=>by simp[a16]
 |o::R,s,hs=>by
  have e:([0,1]:List Nat).idxOf? s=none:=by rw[List.idxOf?_eq_none_iff];simp;omega
  simp only[a16,e,b5q R (s+1) (by omega)]
theorem c47{E:Env}{draw:Bool}{call:CallF}{g:FuncId}{fs cs ar args:List AV}{X Y:AObj}{R:a02}{v:AV}(hx:E.ext g=false)(hf:(E.fn g).isSome=true)(he:fs++ar++cs=args)(hargs:a0e args=[0])(hX:a0y (some X)=[1])(hY:a0y (some Y)=[])
 (ha:args.map (ren (a7n [0,1]))=args)(hX1:a0f (a7n [0,1]) X=X)(hX2:∀n,a0f (a19 [0,1] n) X=X)(hYf:FlatO (some Y))(hr:call g args [some X,some Y]=some (v,[some X,some Y]))(hv:refs v=[]) :
 a0a E draw call (.func (.func g) fs cs) ar (some X::some Y::R)=some (v,some X::some Y::R,[0,1]):=by
 have hY1:∀π,a0f π Y=Y:=λπ=>by have:=hYf π;simpa using this
 have hc:=a1z (call g) args (some X::some Y::R) (σ:=[0,1]) (by rw[hargs];simp+decide only[go_sem,hX,hY]) rfl (by simp) ha (H0:=[some X,some Y]) (by simp[a44,a01,hX1,hY1]) hr;have hp:a16 [0,1] (some X::some Y::R).length [some X,some Y] 0 (some X::some Y::R)=some X::some Y::R:=by simp only[b9g,b5q R 2 (by omega)];simp+decide [c3d,a01,hX2,hY1,List.idxOf?_cons]
 rw[hp,a0d _ v hv]at hc;simp only[List.length_cons,List.length_nil,List.drop_succ_cons,List.drop_zero,List.map_nil,List.append_nil]at hc;exact a5e hx hf he hc rfl
end Go.Ax
/- AxCpy: copy and clear, ar rewrite rules. -/
namespace Go.Ax
section
variable {E:Env}{draw:Bool}{call:CallF}{F:Frm}{H:a02}{h:FHeap}
end
section
variable {E:Env}{t:TypeId}{c:Bool}{x y:BitVec 64}
end
section
variable {E:Env}{h:FHeap}{t:TypeId}
end
end Go.Ax
/- AxFz: a loop that freezes at its end, as rewrite rules. -/
namespace Go.Ax
@[go_sem] theorem e8l(m:Nat)(H:a02)(v:AV):e1b m H v=(a3a m true (a4h (a01 H) m 12) v).getD .junk:=by unfold e1b;cases a3a m true (a4h (a01 H) m 12) v<;>rfl
@[go_sem] theorem e5y(m:Nat)(top:Bool)(d:AV→Option AV):a3a m top d .junk=some .junk:=by rfl
@[go_sem] theorem e3z(m:Nat)(H:a02)(s:Nat)(v:AV)(F:Frm):b82 m H ((s,v)::F)=(s,e1b m H v)::b82 m H F:=by rfl
@[go_sem] theorem e63(m:Nat)(H:a02):b82 m H []=[]:=by rfl
@[go_sem] theorem f0v(H:a02):b0e 0 H=[]:=by simp[b0e]
@[go_sem] theorem e18{α:Type}(a b:α):(some a).getD b=a:=by rfl
@[go_sem] theorem e3s(s:Nat):a33 [] s = .junk:=by rfl
@[go_sem] theorem e2s:refs .junk=[]:=by rfl
theorem d05(m:Nat)(Q:a9j)(e:AExit)(F:Frm)(H:a02):fz m Q e F H=Q e (b82 m H F) (b0e m H):=by rfl
theorem b2i{E:Env}{M:List Fact}{m N:Nat}{g:FuncId}{cur:Nat}{keep:List Nat}{b:Code}{F:Frm}{H:a02}{Q:a9j}(hk:E.keep g cur=keep)(hz:d08 keep=true)(j:Nat)(hj:c5v keep=j){σ:Type}(Fs:σ→Frm)(Hs:σ→a02)(meas:σ→Nat)(Inv:σ→Prop)(s0:σ)(h0:gcD m keep F H=some (Fs s0,Hs s0))(hi:Inv s0)
 (h:∀s,Inv s→Wp (cx E M m N g cur) b (Fs s) (Hs s) (lp m keep Fs Hs meas Inv (meas s) (fz (m+j) Q)))(hx:a6n b=none:=by rfl):Wp (cx E M m N g cur) (.loop b) F H Q:=by
 refine c0w hk hz j hj (λn F1 H1=>∃s,F1=Fs s∧H1=Hs s∧n=meas s∧Inv s) (meas s0) ⟨_,_,h0,s0,rfl,rfl,rfl,hi⟩ ?_ hx
 rintro n F1 H1 ⟨s,rfl,rfl,rfl,hs⟩
 refine c6y (h s hs) ?_;intro e F' H' h2;cases e with
 |normal=>obtain⟨s',g1,g2,g3⟩:=h2;exact⟨_,_,_,g1,g2,s',rfl,rfl,rfl,g3⟩
 |exit id=>exact h2
 |ret=>exact h2
end Go.Ax
/- AxMl: a loop over a set of numbers: as a condition on its end. -/
namespace Go.Ax
section
variable {E:Env}{M:List Fact}{m N:Nat}{g:FuncId}{cur:Nat}{keep:List Nat}{id:Nat}{ops:Array Oper}{it nx:Nat}{ors:List Oper}{rest:Code}
end
end Go.Ax
/- AxSetS: sets of numbers, as rewrite rules. -/
namespace Go.Ax
section
variable {E:Env}{h:FHeap}{t:TypeId}{draw:Bool}{call:CallF}{F:Frm}{H:a02}
@[go_sem] theorem e3a:b35 E t=bif b6y E t then .uset []else .map [] [] [] 0:=by rfl
/-! lookup -/
/-! update -/
/-! delete -/
/-! length -/
/-! ranging -/
/-! frames and heaps -/
variable (π:Nat→Option Nat)
end
end Go.Ax
/- AxTwo: slices of slices that grow: one block of rows, a block for each that is not empty. -/
namespace Go.Ax
theorem a77{H L:a02}{c:Nat}(h:(c<H.length)=True):a01 (H++L) c=a01 H c:=by unfold a01;rw[List.getElem?_append_left (of_eq_true h)]
theorem a6a{H L:a02}(i:Nat):a01 (H++L) (H.length+i)=a01 L i:=by unfold a01;rw[List.getElem?_append_right (by omega)];congr 1;rw[Nat.add_sub_cancel_left]
theorem a6q{H L:a02}:a01 (H++L) H.length=a01 L 0:=a6a 0
theorem b3r{H:a02}{a c:Nat}{o:Option AObj}:a01 (H.set a o) c=if a=c∧a<H.length then o else a01 H c:=by
 unfold a01;rw[List.getElem?_set];by_cases h:a=c
 ·subst h;by_cases hl:a<H.length
  ·simp[hl]
  ·simp[hl]
 ·simp[h]
theorem a38{H:a02}{a c:Nat}{o:Option AObj}(h:a≠c):a01 (H.set a o) c=a01 H c:=by rw[b3r,if_neg (λe=>h e.1)]
theorem c5q{H:a02}{a c:Nat}{o:Option AObj}(h:(a=c)=False):a01 (H.set a o) c=a01 H c:=a38 (λe=>h▸e)
theorem b1j{H:a02}{a:Nat}{o:Option AObj}(h:a<H.length):a01 (H.set a o) a=o:=by rw[b3r,if_pos ⟨rfl,h⟩]
def slV(b:Nat)(c:Option Nat):List (List AV)→AV|[]=>.nilslice|_::rs=>.slice b 0 (rs.length+1) c
theorem d2g(b:Nat)(f:List (List AV)):slV b none f=grV b f:=by cases f<;>rfl
theorem b5f(b:Nat)(c:Option Nat){f:List (List AV)}(h:f≠[]):slV b c f = .slice b 0 f.length c:=by cases f with|nil=>exact absurd rfl h|cons a r=>rfl
theorem b5g{H L:a02}{o:Option AObj}(i:Nat):(H++L).set (H.length+i) o=H++L.set i o:=by rw[List.set_append_right _ _ (by omega),Nat.add_sub_cancel_left]
theorem b0h{H L:a02}{o:Option AObj}:(H++L).set H.length o=H++L.set 0 o:=b5g 0
theorem b98{H L:a02}{o:Option AObj}{a:Nat}(h:(a<H.length)=True):(H++L).set a o=H.set a o++L:=List.set_append_left _ _ (of_eq_true h)
theorem b0s(n:Nat):(n<n+1)=True:=by simp
theorem a9w{a n k:Nat}(h:(a<n)=True):(a<n+k)=True:=by have:=of_eq_true h;simp;omega
def a2c(ids:Nat→Nat)(cp:Nat→Option Nat)(fo:List (List (List AV))):List (List AV):=fo.mapIdx λj f=>[slV (ids j) (cp j) f]
structure Two(H:a02)(b k:Nat)(ids:Nat→Nat)(cp:Nat→Option Nat)(fo:List (List (List AV))):Prop where
 top:a01 H b=some (.row 1 (a2c ids cp fo))
 sub:∀(j:Nat) (f:List (List AV)),fo[j]?=some f→f≠[]→a01 H (ids j)=some (.row k f)∧ids j≠b
 inj:∀(i j:Nat) (f g:List (List AV)),fo[i]?=some f→fo[j]?=some g→f≠[]→g≠[]→ids i=ids j→i=j
 flat:∀f∈fo,FlatR f
theorem a51{ids:Nat→Nat}{cp:Nat→Option Nat}{fo:List (List (List AV))}{j:Nat}{f:List (List AV)}(h:fo[j]?=some f):(a2c ids cp fo)[j]?=some [slV (ids j) (cp j) f]:=by unfold a2c;rw[List.getElem?_mapIdx,h];rfl
theorem a2l(ids:Nat→Nat)(cp:Nat→Option Nat)(fo:List (List (List AV))):(a2c ids cp fo).length=fo.length:=by unfold a2c;simp
theorem b20(b:Nat)(c:Option Nat){f:List (List AV)}:refs (slV b c f)=if f=[]then[]else[b]:=by cases f<;>rfl
theorem a8i{ids:Nat→Nat}{cp:Nat→Option Nat}{fo:List (List (List AV))}{c:Nat}:c∈(a2c ids cp fo).flatMap a0e↔∃j f,fo[j]?=some f∧f≠[]∧c=ids j:=by
 unfold a2c;simp only[List.mem_flatMap];constructor
 ·rintro⟨r,hr,hc⟩
  obtain⟨j,hj⟩:=List.mem_iff_getElem?.1 hr;rw[List.getElem?_mapIdx]at hj;cases hf:fo[j]? with
  |none=>rw[hf]at hj;cases hj
  |some f=>
   rw[hf]at hj;cases hj;simp only[a0e,b20,List.append_nil]at hc;split at hc
   ·simp at hc
   ·rename_i hne;exact⟨j,f,hf,hne,by simpa using hc⟩
 ·rintro⟨j,f,hf,hne,rfl⟩
  refine⟨[slV (ids j) (cp j) f],List.mem_iff_getElem?.2 ⟨j,by rw[List.getElem?_mapIdx,hf];rfl⟩,?_⟩;simp[a0e,b20,hne]
theorem c1d{π:Nat→Option Nat}{b c:Nat}{q:Option Nat}{f:List (List AV)}(h:f≠[]→π b=some c):ren π (slV b q f)=slV c q f:=by
 cases f with
 |nil=>rfl
 |cons a r=>simp only[slV,ren,h (by simp)]
section
variable {m:Nat}{F:Frm}{H H1:a02}{R:Nat→Prop}{π:Nat→Option Nat}{b k:Nat}{ids:Nat→Nat}{cp:Nat→Option Nat}{fo:List (List (List AV))}
theorem Two.ren(hg:Gc m F H R π H1)(h:Two H b k ids cp fo)(hb:R b):∃b' ids',π b=some b'∧Two H1 b' k ids' cp fo:=by
 obtain⟨b',hb'⟩:=hg.here b hb;have hsub:∀(j:Nat) (f:List (List AV)),fo[j]?=some f→f≠[]→π (ids j)=some ((π (ids j)).getD 0):=by intro j f hf hne;have:R (ids j):=hg.closed b hb _ (by rw[h.top];exact a8i.2 ⟨j,f,hf,hne,rfl⟩);obtain⟨c,hc⟩:=hg.here _ this;rw[hc];rfl
 refine⟨b',λj=>(π (ids j)).getD 0,hb',?_,?_,?_,h.flat⟩
 ·rw[hg.heap b b' hb',h.top];simp only[Option.map_some,a0f]
  congr 2
  unfold a2c;apply List.ext_getElem?;intro j;simp only[List.getElem?_map,List.getElem?_mapIdx];cases hf:fo[j]? with
  |none=>rfl
  |some f=>simp only[Option.map_some,List.map_cons,List.map_nil,c1d (hsub j f hf)]
 ·intro j f hf hne;have e:=hsub j f hf hne;obtain⟨h1,h2⟩:=h.sub j f hf hne;refine⟨?_,?_⟩
  ·rw[hg.heap _ _ e,h1];simp only[Option.map_some,a0f,a06 π (h.flat f (List.mem_of_getElem? hf))]
  ·intro he;rw[he]at e;exact h2 (hg.inj _ _ _ e hb')
 ·intro i j f g hf hg' hne hne' e;have e1:=hsub i f hf hne;have e2:=hsub j g hg' hne';rw[e]at e1;exact h.inj i j f g hf hg' hne hne' (hg.inj _ _ _ e1 e2)
theorem Two.app(h:Two H b k ids cp fo){j n:Nat}{f:List (List AV)}{x:List AV}(hf:fo[j]?=some f)(hc:cp j=none)(hx:a0e x=[])(hn:H.length≤n)
 (h1:a01 H1 b=some (.row 1 ((a2c ids cp fo).set j [.slice n 0 (f.length+1) none])))(h2:a01 H1 n=some (.row k (f++[x])))
 (h3:∀(i:Nat) (g:List (List AV)),i≠j→fo[i]?=some g→g≠[]→a01 H1 (ids i)=a01 H (ids i)) :
 Two H1 b k (λi=>if i=j then n else ids i) cp (fo.set j (f++[x])):=by
 have hjl:j<fo.length:=(List.getElem?_eq_some_iff.1 hf).1;have hlt:∀(i:Nat) (g:List (List AV)),fo[i]?=some g→g≠[]→ids i<H.length:=λi g hg hne=>a1c (h.sub i g hg hne).1;have hbl:b<H.length:=a1c h.top;refine⟨?_,?_,?_,?_⟩
 ·rw[h1]
  congr 2
  apply List.ext_getElem?;intro i;unfold a2c;rw[List.getElem?_set,List.length_mapIdx];by_cases hij:j=i
  ·subst hij;simp only[if_true,hjl];rw[List.getElem?_mapIdx,List.getElem?_set];simp only[if_true,hjl,Option.map_some,hc,d2g,c3r]
  ·simp only[if_neg hij];rw[List.getElem?_mapIdx,List.getElem?_mapIdx,List.getElem?_set,if_neg hij];simp only[if_neg (Ne.symm hij)]
 ·intro i g hg hne;rw[List.getElem?_set]at hg;by_cases hij:j=i
  ·subst hij;simp only[if_true,hjl,Option.some.injEq]at hg;subst hg;simp only[if_true];exact⟨h2,by omega⟩
  ·rw[if_neg hij]at hg;simp only[if_neg (Ne.symm hij)];rw[h3 i g (Ne.symm hij) hg hne];exact h.sub i g hg hne
 ·intro i i' g g' hg hg' hne hne' e;rw[List.getElem?_set]at hg hg';by_cases hij:j=i<;>by_cases hij':j=i'
  ·omega
  ·subst hij;simp only[if_neg hij']at hg';simp only[if_true,if_neg (Ne.symm hij')]at e;have:=hlt i' g' hg' hne';omega
  ·subst hij';simp only[if_neg hij]at hg;simp only[if_true,if_neg (Ne.symm hij)]at e;have:=hlt i g hg hne;omega
  ·simp only[if_neg hij]at hg;simp only[if_neg hij']at hg';simp only[if_neg (Ne.symm hij),if_neg (Ne.symm hij')]at e;exact h.inj i i' g g' hg hg' hne hne' e
 ·intro g hg;rcases List.mem_or_eq_of_mem_set hg with hg|rfl
  ·exact h.flat g hg
  ·exact(h.flat f (List.mem_of_getElem? hf)).append (FlatR.cons hx FlatR.nil)
theorem b1z{H:a02}:∀(l:List Nat),(∀c∈l,a0y (a01 H c)=[])→(l.map λc=>(a0y (a01 H c)).length).sum=0
 | [],_=>rfl
 |a::l,h=>by simp only[List.map_cons,List.sum_cons,h a (by simp),List.length_nil,b1z l (λc hc=>h c (by simp[hc]))]
theorem Two.gc{keep:List Nat}(h:Two H b k ids cp fo)(hF:a0e ((a1r keep F).map (·.2))=[b]∨a0e ((a1r keep F).map (·.2))=[b,b])(hn:fo.length<900000) :
 ∃π b' ids' H1,gcD 0 keep F H=some (b5m π (a1r keep F),H1)∧π b=some b'∧Two H1 b' k ids' cp fo:=by
 -- the blocks that rows lead to
 obtain⟨S,hS⟩:∃S,S=b::((List.range fo.length).filter λj=>(fo[j]?).any λf=>!f.isEmpty).map ids:=⟨_,rfl⟩
 have hleaf:∀c∈((List.range fo.length).filter λj=>(fo[j]?).any λf=>!f.isEmpty).map ids,a0y (a01 H c)=[]:=by
  intro c hc;obtain⟨j,hj,rfl⟩:=List.mem_map.1 hc;rw[List.mem_filter]at hj;have hjl:j<fo.length:=by simpa using hj.1
  obtain⟨f,hf⟩:∃f,fo[j]?=some f:=⟨_,z9e hjl⟩
  have hne:=hj.2;rw[hf]at hne;rw[(h.sub j f hf (λe=>by rw[e]at hne;simp at hne)).1];exact a0m (h.flat f (List.mem_of_getElem? hf))
 have hsum:((((List.range fo.length).filter λj=>(fo[j]?).any λf=>!f.isEmpty).map ids).map λc=>(a0y (a01 H c)).length).sum=0:=by exact b1z _ hleaf
 have hrow:(a0y (a01 H b)).length≤fo.length:=by
  rw[h.top];show((a2c ids cp fo).flatMap a0e).length≤_;have:∀(l:List (List AV)),(∀r∈l,(a0e r).length≤1)→(l.flatMap a0e).length≤l.length:=by
   intro l
   induction l with
   |nil=>intro _;simp
   |cons r l ih=>intro hl;have h1:=hl r (by simp);have h2:=ih (λr hr=>hl r (by simp[hr]));simp only[List.flatMap_cons,List.length_append,List.length_cons];omega
  have h2:=this (a2c ids cp fo) (by
   intro r hr;obtain⟨j,hj⟩:=List.mem_iff_getElem?.1 hr;unfold a2c at hj;rw[List.getElem?_mapIdx]at hj;cases hf:fo[j]? with
   |none=>rw[hf]at hj;cases hj
   |some f=>rw[hf]at hj;cases hj;simp only[a0e,b20];split<;>simp)
  rw[a2l]at h2;exact h2
 obtain⟨R,π,H1,g1,g2,_⟩:=c9z (m:=0) (keep:=keep) (F:=F) (H:=H) (Nat.zero_le _) S (by intro c hc;rcases hF with hF|hF<;>rw[hF]at hc<;>simp at hc<;>subst hc<;>simp[hS]) (λc hc=>absurd hc (Nat.not_lt_zero c)) (by
  intro c hc d hd;simp only[hS,List.mem_cons]at hc;rcases hc with rfl|hc
  ·rw[h.top]at hd;obtain⟨j,f,hf,hne,rfl⟩:=a8i.1 hd;simp only[hS,List.mem_cons];refine .inr (List.mem_map.2 ⟨j,List.mem_filter.2 ⟨by simpa using(List.getElem?_eq_some_iff.1 hf).1,?_⟩,rfl⟩);rw[hf];cases f with|nil=>exact absurd rfl hne|cons=>rfl
  ·rw[hleaf c hc]at hd;simp at hd) (by
  have hl:(a0e ((a1r keep F).map (·.2))).length≤2:=by rcases hF with hF|hF<;>rw[hF]<;>simp
  simp only[hS,List.map_cons,List.sum_cons,hsum,List.take_zero,List.flatMap_nil,List.length_nil];omega)
 obtain⟨b',ids',e1,e2⟩:=h.ren g2 (g2.refs b (by rcases hF with hF|hF<;>rw[hF]<;>simp));exact⟨π,b',ids',H1,g1,e1,e2⟩
theorem Two.clip(h:Two H b k ids cp fo){j c:Nat}{f:List (List AV)}(hf:fo[j]?=some f)(h1:a01 H1 b=some (.row 1 ((a2c ids cp fo).set j [slV (ids j) (some c) f])))
 (h3:∀c,c≠b→a01 H1 c=a01 H c):Two H1 b k ids (λi=>if i=j then some c else cp i) fo:=by
 have hjl:j<fo.length:=(List.getElem?_eq_some_iff.1 hf).1;refine⟨?_,λi g hg hne=>?_,h.inj,h.flat⟩
 ·rw[h1]
  congr 2
  apply List.ext_getElem?;intro i;unfold a2c;rw[List.getElem?_set,List.length_mapIdx];by_cases hij:j=i
  ·subst hij;simp only[if_true,hjl];rw[List.getElem?_mapIdx,hf];simp
  ·simp only[if_neg hij];rw[List.getElem?_mapIdx,List.getElem?_mapIdx];simp only[if_neg (Ne.symm hij)]
 ·obtain⟨g1,g2⟩:=h.sub i g hg hne;rw[h3 _ g2];exact⟨g1,g2⟩
def slF(c:Option Nat):List (List AV)→AV|[]=>.nilslice|r::rs=>.islice (r::rs) c
theorem Two.frz(h:Two H b k ids cp fo)(c:Option Nat):a3a 0 true (a4h (a01 H) 0 12) (.slice b 0 fo.length c)=some (.islice (fo.mapIdx λj f=>[slF (cp j) f]) c):=by
 have key:∀(rows:List (List AV)) (out:List (List AV)),rows.length=out.length→(∀(j:Nat) r o,rows[j]?=some r→out[j]?=some o→a56 0 false (a4h (a01 H) 0 11) r=some o)→a9a 0 (a4h (a01 H) 0 11) rows=some out:=by
  intro rows
  induction rows with
  |nil=>intro out hl _;cases out with|nil=>rfl|cons=>simp at hl
  |cons r rows ih=>
   intro out hl hh;cases out with
   |nil=>simp at hl
   |cons o out=>rw[b3v,hh 0 r o rfl rfl];simp only[a0g];rw[ih out (by simpa using hl) (λj r o hr ho=>hh (j+1) r o (by simpa using hr) (by simpa using ho))]
 have e12:∀x,a4h (a01 H) 0 12 x=a4h (a01 H) 0 (11+1) x:=λ_=>rfl;rw[a5w,decide_eq_false (Nat.not_lt_zero b),cond_false,a4r (eq_true (by omega:0<12)),h.top];simp only[a95,a0g,a2l,List.drop_zero,Nat.zero_add];rw[decide_eq_true (Nat.le_refl _),cond_true,←a2l ids cp fo,List.take_length];rw[key (a2c ids cp fo) (fo.mapIdx λj f=>[slF (cp j) f]) (by rw[a2l];simp)];intro j r o hr ho;rw[List.getElem?_mapIdx]at ho;cases hf:fo[j]? with
 |none=>rw[hf]at ho;cases ho
 |some f=>
  rw[hf]at ho;rw[a51 hf]at hr;cases ho;cases hr;rw[a3l,b81];cases f with
  |nil=>rfl
  |cons x xs=>obtain⟨g1,_⟩:=h.sub j _ hf (by simp);have hfl:=h.flat _ (List.mem_of_getElem? hf);simp only[slV,slF];rw[a5w,decide_eq_false (Nat.not_lt_zero _),cond_false,a4r (eq_true (by omega:0<11)),g1];simp only[a95,a0g,List.drop_zero,Nat.zero_add];rw[decide_eq_true (by simp),cond_true];have:List.take (xs.length+1) (x::xs)=x::xs:=List.take_length (l:=x::xs);rw[this,a17 _ _ hfl]
end
theorem Two.more{H L:a02}{b k:Nat}{ids:Nat→Nat}{cp:Nat→Option Nat}{fo:List (List (List AV))}(h:Two H b k ids cp fo):Two (H++L) b k ids cp fo:=by
 have hl:∀{c:Nat} {o:AObj},a01 H c=some o→a01 (H++L) c=some o:=λhc=>by rw[a77 (eq_true (a1c hc))];exact hc
 exact⟨hl h.top,λj f hf hne=>⟨hl (h.sub j f hf hne).1,(h.sub j f hf hne).2⟩,h.inj,h.flat⟩
theorem a5v{H L:a02}{a:Nat}{o:Option AObj}(i:Nat):a01 (H.set a o++L) (H.length+i)=a01 L i:=by
 have:=a6a (H:=H.set a o) (L:=L) i
 rwa [List.length_set]at this
theorem a39{H L:a02}{a c:Nat}{o:Option AObj}(hc:c<H.length):a01 (H.set a o++L) c=if a=c then o else a01 H c:=by
 rw[a77 (eq_true (by rw[List.length_set];exact hc)),b3r];by_cases h:a=c
 ·subst h;simp[hc]
 ·simp[h]
section
variable {H:a02}{b k:Nat}{ids:Nat→Nat}{cp:Nat→Option Nat}{fo:List (List (List AV))}{j:Nat}{x:List AV}{o:Option AObj}
theorem Two.app1(h:Two H b k ids cp fo)(hf:fo[j]?=some [])(hc:cp j=none)(hx:a0e x=[]) :
 Two (H.set b (some (.row 1 ((a2c ids cp fo).set j [.slice (H.length+1) 0 1 none])))++[o,some (.row k [x])]) b k (λi=>if i=j then H.length+1 else ids i) cp (fo.set j [x]):=by
 have hbl:=a1c h.top;refine h.app hf hc hx (by omega) ?_ ?_ ?_
 ·rw[a39 hbl,if_pos rfl];rfl
 ·rw[a5v];rfl
 ·intro i g hij hg hne;obtain⟨g1,g2⟩:=h.sub i g hg hne;rw[a39 (a1c g1),if_neg (Ne.symm g2)]
theorem Two.app2{a:List AV}{r:List (List AV)}(h:Two H b k ids cp fo)(hf:fo[j]?=some (a::r))(hc:cp j=none)(hx:a0e x=[]) :
 Two ((H.set (ids j) none).set b (some (.row 1 ((a2c ids cp fo).set j [.slice (H.length+1) 0 (r.length+1+1) none])))++[o,some (.row k (a::(r++[x])))]) b k (λi=>if i=j then H.length+1 else ids i) cp (fo.set j (a::r++[x])):=by
 have hbl:=a1c h.top;have hll:(H.set (ids j) none).length=H.length:=List.length_set;refine h.app hf hc hx (by omega) ?_ ?_ ?_
 ·rw[a39 (by rw[hll];exact hbl),if_pos rfl];rfl
 ·have:=a5v (H:=H.set (ids j) none) (L:=[o,some (.row k (a::(r++[x])))]) (a:=b) (o:=some (.row 1 ((a2c ids cp fo).set j [.slice (H.length+1) 0 (r.length+1+1) none]))) 1;rw[hll]at this;rw[this];rfl
 ·intro i g hij hg hne;obtain⟨g1,g2⟩:=h.sub i g hg hne;rw[a39 (by rw[hll];exact a1c g1),if_neg (Ne.symm g2),a38];intro e;exact hij (h.inj i j g (a::r) hg hf hne (by simp) e.symm)
end
theorem a66{keep:List Nat}{F:Frm}{H:a02}{b k:Nat}{ids:Nat→Nat}{cp:Nat→Option Nat}{fo:List (List (List AV))}{P:Frm→a02→Prop}(h:Two H b k ids cp fo)(hF:a0e ((a1r keep F).map (·.2))=[b]∨a0e ((a1r keep F).map (·.2))=[b,b])(hn:fo.length<900000)
 (hP:∀π b' ids' H1,π b=some b'→Two H1 b' k ids' cp fo→P (b5m π (a1r keep F)) H1):∃F1 H1,gcD 0 keep F H=some (F1,H1)∧P F1 H1:=by
 obtain⟨π,b',ids',H1,g1,g2,g3⟩:=h.gc hF hn;exact⟨_,H1,g1,hP π b' ids' H1 g2 g3⟩
def fqE(E:Env)(g:FuncId)(m:Nat)(results:List ResultVar)(P:AV×a02→Prop):a9j:=λe F H=>match e with|.exit _=>False|_=>∃vs r,a10 E F H results=some vs∧a26 (E.thaw g) m (a62 vs) H=some r∧P r
theorem a2v{E:Env}{g:FuncId}{m:Nat}{results:List ResultVar}{P:AV×a02→Prop}{F:Frm}{H:a02}{vs:List AV}{r:AV×a02}(h1:a10 E F H results=some vs)(h2:a26 (E.thaw g) m (a62 vs) H=some r)(h3:P r):fqE E g m results P .ret F H:=⟨vs,r,h1,h2,h3⟩
theorem b83{E:Env}{g:FuncId}{m:Nat}{results:List ResultVar}{P:AV×a02→Prop}{F:Frm}{H:a02}{vs:List AV}{r:AV×a02}(h1:a10 E F H results=some vs)(h2:a26 (E.thaw g) m (a62 vs) H=some r)(h3:P r):fqE E g m results P .normal F H:=⟨vs,r,h1,h2,h3⟩
theorem d7k{E:Env}{M:List Fact}{g:FuncId}{args:List AV}{H:a02}{code:Code}{N:Nat}{results:List ResultVar}{P:AV×a02→Prop}
 (hfn:E.fn g=some ⟨code,N,results⟩)(hno:∀y∈M,y.g≠g)(hN:Nat.ble args.length N=true){m:Nat}(hm:H.length=m)(h:Wp (cx E M m N g 0) code (a3b 0 args) H (fqE E g m results P))(hp:E.prim g args=none:=by rfl)(hz:E.zf g=false:=by rfl)(hw:E.raw g=false:=by rfl):∃r,P r∧sem E M g args H=some r:=by
 subst hm;obtain⟨e,F',H',h1,h2⟩:=b90 _ h;cases e with
 |normal=>obtain⟨vs,⟨v,H2⟩,h3,h4,h5⟩:=h2;exact⟨_,h5,c37 hfn hno hN h1 (λ_ h=>by cases h) h3 h4 hp hz hw⟩
 |ret=>obtain⟨vs,⟨v,H2⟩,h3,h4,h5⟩:=h2;exact⟨_,h5,c37 hfn hno hN h1 (λ_ h=>by cases h) h3 h4 hp hz hw⟩
 |exit id=>exact h2.elim
theorem svE{E:Env}{M:List Fact}{g:FuncId}{args:List AV}{H:a02}{P:AV×a02→Prop}(f:Func)(h:Wp (cx E M H.length f.ntmps g 0) (f.body.getD .skip) (a3b 0 args) H (fqE E g H.length f.results.toList P))(hfn:E.fn g=some ⟨f.body.getD .skip,f.ntmps,f.results.toList⟩:=by kernel_rfl)
 (hno:(M.all λy=>!Nat.beq y.g g)=true:=by rfl)(hN:Nat.ble args.length f.ntmps=true:=by rfl)(hp:E.prim g args=none:=by rfl)(hz:E.zf g=false:=by rfl)(hw:E.raw g=false:=by rfl):∃r,P r∧sem E M g args H=some r:=d7k hfn (λy hy e=>by
 have:=List.all_eq_true.1 hno y hy;rw[e]at this;simp at this) hN rfl h hp hz hw
end Go.Ax
/- AxCall3: calls over two blocks, which they may write. -/
namespace Go.Ax
theorem a7v{σ:List Nat}{n:Nat}{H1:a02}:∀(s:Nat) (H:a02) (i:Nat),(a16 σ n H1 s H)[i]?=(H[i]?).map λo=>match σ.idxOf? (s+i)with|some j=>(a01 H1 j).map (a0f (a19 σ n))|none=>o
 |s,[],i=>by simp[a16]
 |s,o::H,0=>by simp[a16];rfl
 |s,o::H,i+1=>by simp only[a16,List.getElem?_cons_succ,a7v (s+1) H i];rw[show s+1+i=s+(i+1) by omega]
theorem c87{H:a02}{a b:Nat}(hab:a≠b)(ha:a0y (a01 H a)=[])(hb:a0y (a01 H b)=[]):a1t H 1000000 [a,b] []=[a,b]:=by
 have e:a1t H (999996+4) [a,b] []=[a,b]:=by
  unfold a1t;simp only[a0r,cond_false,ha,List.nil_append];unfold a1t;have h1:a0r [a] b=false:=by
   cases hc:a0r [a] b with
   |false=>rfl
   |true=>exact absurd (by simpa using a1v.1 hc) (Ne.symm hab)
  simp only[h1,cond_false,hb,List.nil_append];unfold a1t;rfl
 exact e
theorem b4f{E:Env}{draw:Bool}{call:CallF}{g:FuncId}{fs cs ar args:List AV}{H:a02}{v v':AV}{a b:Nat}{o1 o2 p1 p2:AObj}(hx:E.ext g=false)(hf:(E.fn g).isSome=true)(he:fs++ar++cs=args)
 (hab:a≠b)(ha:a01 H a=some o1)(hb:a01 H b=some o2)(hr1:a0y (some o1)=[])(hr2:a0y (some o2)=[])(hf1:FlatO (some o1))(hf2:FlatO (some o2))(hargs:a0e args=[a,b])
 {args':List AV}(hra:args.map (ren (a7n [a,b]))=args')(hr:call g args' [some o1,some o2]=some (v,[some p1,some p2]))(hp1:FlatO (some p1))(hp2:FlatO (some p2))(hv:ren (a19 [a,b] H.length) v=v') :
 a0a E draw call (.func (.func g) fs cs) ar H=some (v',(H.set a (some p1)).set b (some p2),[a,b]):=by
 have l1:=a1c ha;have l2:=a1c hb;have hn:a4l [a,b]=true:=a9t (by simp[hab]);have hc:=a1z (call g) args H (σ:=[a,b]) (by rw[hargs];exact c87 hab (by rw[ha];exact hr1) (by rw[hb];exact hr2)) hn (by simp[l1,l2]) hra (H0:=[some o1,some o2])
  (by simp only[a44,List.map_cons,List.map_nil,ha,hb];rw[hf1,hf2]) hr
 have hpb:a16 [a,b] H.length [some p1,some p2] 0 H=(H.set a (some p1)).set b (some p2):=by
  apply List.ext_getElem?;intro i;rw[a7v,List.getElem?_set,List.getElem?_set,List.length_set,Nat.zero_add];by_cases hia:a=i
  ·subst hia;have e:([a,b]:List Nat).idxOf? a=some 0:=by simp[List.idxOf?_cons]
   rw[z9e l1];simp only[Option.map_some,e,if_neg (Ne.symm hab),if_true,l1]
   congr 1
   exact hp1 _
  ·by_cases hib:b=i
   ·subst hib;have e:([a,b]:List Nat).idxOf? b=some 1:=by simp[List.idxOf?_cons,hab]
    rw[z9e l2];simp only[Option.map_some,e,if_true,l2]
    congr 1
    exact hp2 _
   ·have e:([a,b]:List Nat).idxOf? i=none:=by simp[List.idxOf?_cons,hia,hib]
    rw[if_neg hib,if_neg hia];cases H[i]? with
    |none=>rfl
    |some o=>simp only[Option.map_some,e]
 rw[hv,hpb]at hc;simp only[List.drop_succ_cons,List.drop_zero,List.map_nil,List.append_nil,List.length_cons,List.length_nil]at hc;exact a5e hx hf he hc (by simp)
theorem c1n(a b o l:Nat)(c:Option Nat):ren (a7n [a,b]) (.slice a o l c) = .slice 0 o l c:=by simp[ren,a7n,List.idxOf?_cons]
theorem c80{a b:Nat}(h:a≠b)(i o:Nat):ren (a7n [a,b]) (.ptr b i o) = .ptr 1 i o:=by simp[ren,a7n,List.idxOf?_cons,h]
end Go.Ax
/- AxTab: a table of rows of words in blocks, wherever they lie; heads of loops and calls over it. -/
namespace Go.Ax
structure Mv(H:a02)(R:Nat→Prop)(π:Nat→Option Nat)(H1:a02):Prop where
 inj:∀a b c,π a=some c→π b=some c→a=b
 closed:∀b,R b→∀c∈a0y (a01 H b),R c
 here:∀b,R b→∃c,π b=some c
 heap:∀b c,R b→π b=some c→a01 H1 c=(a01 H b).map (a0f π)
theorem Gc.mv{m:Nat}{F:Frm}{H H1:a02}{R:Nat→Prop}{π:Nat→Option Nat}(g:Gc m F H R π H1):Mv H R π H1:=⟨g.inj,g.closed,g.here,λb c _ h=>g.heap b c h⟩
section
variable {H H1:a02}{R:Nat→Prop}{π:Nat→Option Nat}{a b q:Nat}{ids:Nat→Nat}{w:Nat}{fo:List (List (BitVec 64))}{fr:Int}
end
/-! ### calls, wherever the blocks lie -/
end Go.Ax
/- AxGw: a flat block and a slice of rows that grow together. -/
namespace Go.Ax
section
variable {H H1:a02}{R:Nat→Prop}{π:Nat→Option Nat}{w b k:Nat}{ids:Nat→Nat}{cp:Nat→Option Nat}{ws:List (List AV)}{fo:List (List (List AV))}
theorem Two.mv(hg:Mv H R π H1)(h:Two H b k ids cp fo)(hb:R b):∃b' ids',π b=some b'∧Two H1 b' k ids' cp fo∧∀(j:Nat) (f:List (List AV)),fo[j]?=some f→f≠[]→π (ids j)=some (ids' j):=by
 obtain⟨b',hb'⟩:=hg.here b hb;have hR:∀(j:Nat) (f:List (List AV)),fo[j]?=some f→f≠[]→R (ids j):=λj f hf hne=>hg.closed b hb _ (by rw[h.top];exact a8i.2 ⟨j,f,hf,hne,rfl⟩);have hsub:∀(j:Nat) (f:List (List AV)),fo[j]?=some f→f≠[]→π (ids j)=some ((π (ids j)).getD 0):=by intro j f hf hne;obtain⟨c,hc⟩:=hg.here _ (hR j f hf hne);rw[hc];rfl
 refine⟨b',λj=>(π (ids j)).getD 0,hb',⟨?_,?_,?_,h.flat⟩,hsub⟩
 ·rw[hg.heap b b' hb hb',h.top];simp only[Option.map_some,a0f]
  congr 2
  unfold a2c;apply List.ext_getElem?;intro j;simp only[List.getElem?_map,List.getElem?_mapIdx];cases hf:fo[j]? with
  |none=>rfl
  |some f=>simp only[Option.map_some,List.map_cons,List.map_nil,c1d (hsub j f hf)]
 ·intro j f hf hne;have e:=hsub j f hf hne;obtain⟨h1,h2⟩:=h.sub j f hf hne;refine⟨?_,?_⟩
  ·rw[hg.heap _ _ (hR j f hf hne) e,h1];simp only[Option.map_some,a0f,a06 π (h.flat f (List.mem_of_getElem? hf))]
  ·intro he;rw[he]at e;exact h2 (hg.inj _ _ _ e hb')
 ·intro i j f g hf hg' hne hne' e;have e1:=hsub i f hf hne;have e2:=hsub j g hg' hne';rw[e]at e1;exact h.inj i j f g hf hg' hne hne' (hg.inj _ _ _ e1 e2)
def b4u(b:Nat)(ids:Nat→Nat)(fo:List (List (List AV))):List Nat:=b::((List.range fo.length).filter λj=>(fo[j]?).any λf=>!f.isEmpty).map ids
theorem c74{j:Nat}{f:List (List AV)}(hf:fo[j]?=some f)(hne:f≠[]):ids j∈b4u b ids fo:=by unfold b4u;refine List.mem_cons_of_mem _ (List.mem_map.2 ⟨j,List.mem_filter.2 ⟨by simpa using(List.getElem?_eq_some_iff.1 hf).1,?_⟩,rfl⟩);rw[hf];cases f with|nil=>exact absurd rfl hne|cons=>rfl
theorem c75{c:Nat}(h:c∈b4u b ids fo):c=b∨∃j f,fo[j]?=some f∧f≠[]∧c=ids j:=by
 unfold b4u at h;rcases List.mem_cons.1 h with h|h
 ·exact .inl h
 ·obtain⟨j,hj,rfl⟩:=List.mem_map.1 h;rw[List.mem_filter]at hj;obtain⟨f,hf⟩:∃f,fo[j]?=some f:=⟨_,z9e (by simpa using hj.1)⟩
  have:=hj.2;rw[hf]at this;exact .inr ⟨j,f,hf,by intro e;rw[e]at this;simp at this,rfl⟩
theorem Two.closed(h:Two H b k ids cp fo):∀c∈b4u b ids fo,∀d∈a0y (a01 H c),d∈b4u b ids fo:=by
 intro c hc d hd;rcases c75 hc with rfl|⟨j,f,hf,hne,rfl⟩
 ·rw[h.top]at hd;obtain⟨j,f,hf,hne,rfl⟩:=a8i.1 hd;exact c74 hf hne
 ·rw[(h.sub j f hf hne).1,a0m (h.flat f (List.mem_of_getElem? hf))]at hd;simp at hd
theorem Two.cost(h:Two H b k ids cp fo):((b4u b ids fo).map λc=>(a0y (a01 H c)).length).sum≤fo.length:=by
 have hz:((((List.range fo.length).filter λj=>(fo[j]?).any λf=>!f.isEmpty).map ids).map λc=>(a0y (a01 H c)).length).sum=0:=b1z _ (by
  intro c hc;obtain⟨j,hj,rfl⟩:=List.mem_map.1 hc;rw[List.mem_filter]at hj;obtain⟨f,hf⟩:∃f,fo[j]?=some f:=⟨_,z9e (by simpa using hj.1)⟩
  have:=hj.2;rw[hf]at this;rw[(h.sub j f hf (by intro e;rw[e]at this;simp at this)).1];exact a0m (h.flat f (List.mem_of_getElem? hf)))
 unfold b4u;rw[List.map_cons,List.sum_cons,hz,Nat.add_zero,h.top];show((a2c ids cp fo).flatMap a0e).length≤_;have:∀(l:List (List AV)),(∀r∈l,(a0e r).length≤1)→(l.flatMap a0e).length≤l.length:=by
  intro l
  induction l with
  |nil=>intro _;simp
  |cons r l ih=>intro hl;have h1:=hl r (by simp);have h2:=ih (λr hr=>hl r (by simp[hr]));simp only[List.flatMap_cons,List.length_append,List.length_cons];omega
 have h2:=this (a2c ids cp fo) (by
  intro r hr;obtain⟨j,hj⟩:=List.mem_iff_getElem?.1 hr;unfold a2c at hj;rw[List.getElem?_mapIdx]at hj;cases hf:fo[j]? with
  |none=>rw[hf]at hj;cases hj
  |some f=>rw[hf]at hj;cases hj;simp only[a0e,b20];split<;>simp)
 rw[a2l]at h2;exact h2
end
end Go.Ax
/- AxTwX: a slice of growing slices beside flat blocks: a loop's head. -/
namespace Go.Ax
section
variable {H:a02}{b k:Nat}{ids:Nat→Nat}{cp:Nat→Option Nat}{fo:List (List (List AV))}
theorem Two.headX{keep:List Nat}{F:Frm}{P:Frm→a02→Prop}(h:Two H b k ids cp fo)(X:List Nat)(hX:∀x∈X,a0y (a01 H x)=[])(hF:∀c∈a0e ((a1r keep F).map (·.2)),c∈X∨c=b)(hb:b∈a0e ((a1r keep F).map (·.2)))(hin:∀x∈X,x∈a0e ((a1r keep F).map (·.2)))(hl:(a0e ((a1r keep F).map (·.2))).length≤10)(hn:fo.length<900000)
 (hP:∀π b' ids' H1,π b=some b'→Two H1 b' k ids' cp fo→(∀x∈X,∃x',π x=some x'∧a01 H1 x'=(a01 H x).map (a0f π))→P (b5m π (a1r keep F)) H1):∃F1 H1,gcD 0 keep F H=some (F1,H1)∧P F1 H1:=by
 have hcost:=h.cost;have hX0:(X.map λb=>(a0y (a01 H b)).length).sum=0:=b1z _ λb hb=>by rw[hX b hb]
 obtain⟨R,π,H1,g1,g2,_⟩:=c9z (m:=0) (keep:=keep) (F:=F) (H:=H) (Nat.zero_le _) (X++b4u b ids fo) (λc hc=>by
  rcases hF c hc with h|rfl
  ·exact List.mem_append_left _ h
  ·exact List.mem_append_right _ (by simp[b4u])) (λc hc=>absurd hc (Nat.not_lt_zero c)) (by
  intro c hc d hd;rcases List.mem_append.1 hc with hc|hc
  ·rw[hX c hc]at hd;cases hd
  ·exact List.mem_append_right _ (h.closed c hc d hd)) (by
  simp only[List.map_append,List.sum_append,hX0,List.take_zero,List.flatMap_nil,List.length_nil];omega)
 have hm:=g2.mv;obtain⟨b',ids',e1,e2,e3⟩:=h.mv hm (g2.refs b hb);refine⟨_,H1,g1,hP π b' ids' H1 e1 e2 λx hx=>?_⟩;obtain⟨x',ex⟩:=g2.here x (g2.refs x (hin x hx));exact⟨x',ex,g2.heap x x' ex⟩
theorem Two.apart(h:Two H b k ids cp fo){d q:Nat}{rows:List (List AV)}(hd:a01 H d=some (.row q rows))(hq:q≠1)(hk:q≠k):d≠b∧∀j f,fo[j]?=some f→f≠[]→d≠ids j:=by
 refine⟨λe=>?_,λj f hf hne e=>?_⟩
 ·rw[e,h.top]at hd;cases hd;exact hq rfl
 ·rw[e,(h.sub j f hf hne).1]at hd;cases hd;exact hk rfl
end
end Go.Ax
/- AxTab2: a table that a call has been given: heads of loops and calls that write it. -/
namespace Go.Ax
section
variable {H H1:a02}{a b q:Nat}{ids:Nat→Nat}{w:Nat}{fo:List (List (BitVec 64))}{fr:Int}
mutual
theorem b2u{m:Nat}{π:Nat→Option Nat}(hπ:∀c,c<m→π c=some c):∀(v:AV),(∀c∈refs v,c<m)→ren π v=v
 |.ptr b i o,h=>by simp only[ren,hπ b (h b (by simp[refs]))]
 |.slice b o l c,h=>by simp only[ren,hπ b (h b (by simp[refs]))]
 |.map b,h=>by simp only[ren,hπ b (h b (by simp[refs]))]
 |.yfn b,h=>by simp only[ren,hπ b (h b (by simp[refs]))]
 |.func fn fs cs,h=>by simp only[refs,List.mem_append]at h;simp only[ren,a5g hπ fs (λc hc=>h c (.inl hc)),a5g hπ cs (λc hc=>h c (.inr hc))]
 |.iface t x,h=>by simp only[refs]at h;simp only[ren,b2u hπ x h]
 |.agg cs,h=>by simp only[refs]at h;simp only[ren,a5g hπ cs h]
 |.tuple cs,h=>by simp only[refs]at h;simp only[ren,a5g hπ cs h]
 |.junk,_|.bool _,_|.int ..,_|.str _,_|.nilptr,_|.nilslice,_|.nilmap,_|.nilfunc,_|.nilifc,_|.iptr _,_|.islice ..,_|.imap ..,_|.iset _,_=>rfl
theorem a5g{m:Nat}{π:Nat→Option Nat}(hπ:∀c,c<m→π c=some c):∀(l:List AV),(∀c∈a0e l,c<m)→b8u π l=l
 | [],_=>rfl
 |v::vs,h=>by simp only[a0e,List.mem_append]at h;simp only[b8u,b2u hπ v (λc hc=>h c (.inl hc)),a5g hπ vs (λc hc=>h c (.inr hc))]
end
theorem a8j{m:Nat}{π:Nat→Option Nat}(hπ:∀c,c<m→π c=some c)(l:List AV)(h:∀c∈a0e l,c<m):l.map (ren π)=l:=by rw[←a7u];exact a5g hπ l h
theorem c53{m:Nat}{π:Nat→Option Nat}(hπ:∀c,c<m→π c=some c)(o:AObj)(h:∀c∈a0y (some o),c<m):a0f π o=o:=by
 cases o with
 |row k rows=>
  simp only[a0f]
  congr 1
  conv=>rhs;rw[←List.map_id rows]
  refine List.map_congr_left λr hr=>?_;refine a8j hπ r λe he=>h e ?_;simp only[a0y,List.mem_flatMap];exact⟨r,hr,he⟩
 |map ks vs bs cl=>simp only[a0f];rw[a8j hπ ks (λe he=>h e (by simp[a0y,he])),a8j hπ vs (λe he=>h e (by simp[a0y,he]))]
 |siter s p=>rfl
 |uset ks=>rfl
 |miter ks vis arm=>rfl
 |yloop y Fy st=>
  simp only[a0f]
  congr 1
  conv=>rhs;rw[←List.map_id Fy]
  refine List.map_congr_left λx hx=>?_;rw[b2u hπ x.2 λc hc=>h c (c85 hx hc)];rfl
theorem b5l{m:Nat}{π:Nat→Option Nat}(hπ:∀c,c<m→π c=some c):∀F:Frm,(∀c∈a0e (F.map (·.2)),c<m)→b5m π F=F
 | [],_=>rfl
 |(s,v)::F,h=>by simp only[List.map_cons,a0e,List.mem_append]at h;have:=a8j hπ [v] (by simp only[a0e,List.append_nil];exact λc hc=>h c (.inl hc));simp only[List.map_cons,List.map_nil,List.cons.injEq,and_true]at this;rw[c82,this,b5l hπ F (λc hc=>h c (.inr hc))]
end
theorem b1g(a b:List AV):a0e (a++b)=a0e a++a0e b:=by
 induction a with
 |nil=>rfl
 |cons v a ih=>simp only[List.cons_append,a0e,ih,List.append_assoc]
end Go.Ax
/- AxLow: a loop's head over blocks that all stood before the call and refer to nothing. -/
namespace Go.Ax
theorem d42{H H1:a02}(hl:H1.length=H.length)(h:∀b,b<H.length→a01 H1 b=a01 H b):H1=H:=by apply List.ext_getElem hl;intro b h1 h2;have:=h b h2;unfold a01 at this;rw[z9e h1,z9e h2]at this;exact this
theorem e3u{keep:List Nat}{F F':Frm}{H:a02}(hk:a1r keep F=F')(hF:∀b∈a0e (F'.map (·.2)),b<H.length)(hn:(a0e (F'.map (·.2))).length<1000)(hH:∀b,a0y (a01 H b)=[]):gcD H.length keep F H=some (F',H):=by
 subst hk;have hsum:((List.range H.length).map λb=>(a0y (a01 H b)).length).sum=0:=by
  have:((List.range H.length).map λb=>(a0y (a01 H b)).length)=List.replicate H.length 0:=by rw[←List.length_range (n:=H.length),←List.map_const',List.length_range];exact List.map_congr_left λb _=>by rw[hH];rfl
  rw[this];simp
 have hfl:(H.take H.length).flatMap a0y=[]:=by rw[List.take_length,List.flatMap_eq_nil_iff];intro o ho;obtain⟨b,hb⟩:=List.mem_iff_getElem?.1 ho;have:=hH b;unfold a01 at this;rw[hb]at this;exact this
 obtain⟨R,π,H1,h1,hg,hl⟩:=c9z (m:=H.length) (keep:=keep) (F:=F) (H:=H) (Nat.le_refl _) (List.range H.length) (λb hb=>List.mem_range.2 (hF b hb)) (λb _ c hc=>by rw[hH]at hc;simp at hc) (λb _ c hc=>by rw[hH]at hc;simp at hc) (by rw[hsum,hfl];simp only[List.length_nil];omega);have hlen:H1.length=H.length:=by have:=hg.len [] (λb hR hb=>by have:=hg.least (λb=>b<H.length) hF (λb _ c hc=>by rw[hH]at hc;simp at hc) (λb _ c hc=>by rw[hH]at hc;simp at hc) b hR;omega);simp only[List.length_nil,Nat.add_zero]at this;omega
 rw[h1,b5l hg.low _ hF];have:H1=H:=d42 hlen λb hb=>by
  rw[hg.heap b b (hg.low b hb)];cases ho:a01 H b with
  |none=>rfl
  |some o=>have h2:=hH b;rw[ho]at h2;simp only[Option.map_some];rw[c53 hg.low o (λc hc=>by rw[h2]at hc;simp at hc)]
 rw[this]
end Go.Ax
/- AxRf: loops over functions, as conditions on their ends; their rounds. -/
namespace Go.Ax
theorem d53{E:Env}{draw:Bool}{call:CallF}{g:FuncId}{fs cs as args:List AV}{H:a02}(hx:E.ext g=false)(hf:(E.fn g).isSome=true)(he:fs++as++cs=args){v:AV}{H':a02}{σ:List Nat}
 (h:a2h (call g) args H=some (v,H',σ))(hl:H.length≤H'.length):a0a E draw call (.func (.func g) fs cs) as H=some (v,H',σ):=by
 have hb:Nat.ble H.length H'.length=true:=by rw[Nat.ble_eq];exact hl
 simp only[a0a,hx,hf,he,h,hb,cond_true,cond_false,Bool.not_true,Bool.and_false]
end Go.Ax
/- AxTwY: a slice of slices: a new slice in an empty place; the numbers that a loop's head gives to the first blocks. -/
namespace Go.Ax
theorem b2x(H:a02):∀(n:Nat) (todo acc:List Nat),∃t,a1t H n todo acc=acc.reverse++t
 |0,_,acc=>⟨[],by simp[a1t]⟩
 |n+1,[],acc=>⟨[],by simp[a1t]⟩
 |n+1,b::todo,acc=>by
  unfold a1t;cases a0r acc b with
  |true=>exact b2x H n todo acc
  |false=>obtain⟨t,ht⟩:=b2x H n (a0y (a01 H b)++todo) (b::acc);exact⟨b::t,by simp only[cond_false];rw[ht];simp⟩
theorem c1p{H:a02}{n c p b:Nat}(hc:a0y (a01 H c)=[])(hp:a0y (a01 H p)=[])(h1:c≠p)(h2:c≠b)(h3:p≠b):∃t,a1t H (n+3) [c,p,b] []=[c,p,b]++t:=by
 have e1:a1t H (n+3) [c,p,b] []=a1t H (n+2) (a0y (a01 H c)++[p,b]) [c]:=by show(bif a0r [] c then _ else _)=_;rfl
 have k1:a0r [c] p=false:=by
  cases h:a0r [c] p with
  |false=>rfl
  |true=>have:=a1v.1 h;simp at this;exact absurd this.symm h1
 have e2:a1t H (n+2) [p,b] [c]=a1t H (n+1) (a0y (a01 H p)++[b]) [p,c]:=by show(bif a0r [c] p then _ else _)=_;rw[k1];rfl
 have k2:a0r [p,c] b=false:=by
  cases h:a0r [p,c] b with
  |false=>rfl
  |true=>
   have:=a1v.1 h;simp only[List.mem_cons,List.not_mem_nil,or_false]at this;rcases this with e|e
   ·exact absurd e.symm h3
   ·exact absurd e.symm h2
 have e3:a1t H (n+1) [b] [p,c]=a1t H n (a0y (a01 H b)++[]) [b,p,c]:=by show(bif a0r [p,c] b then _ else _)=_;rw[k2];rfl
 rw[e1,hc,List.nil_append,e2,hp,List.nil_append,e3];obtain⟨t,ht⟩:=b2x H n (a0y (a01 H b)++[]) [b,p,c];exact⟨t,by rw[ht];simp⟩
theorem d01{keep:List Nat}{F F1:Frm}{H H1:a02}(h:gcD 0 keep F H=some (F1,H1)){c p b:Nat}(hr:a0e ((a1r keep F).map (·.2))=[c,p,b])(hc:a0y (a01 H c)=[])(hp:a0y (a01 H p)=[])(h1:c≠p)(h2:c≠b)(h3:p≠b) :
 ∃π:Nat→Option Nat,F1=b5m π (a1r keep F)∧π c=some 0∧π p=some 1∧π b=some 2:=by
 obtain⟨_,e,_⟩:=c29 h;refine⟨_,e.symm,?_⟩;obtain⟨t,ht⟩:=c1p (n:=a36-3) hc hp h1 h2 h3;have hi:a8t 0 (a1r keep F) H=[c,p,b]++t.filter (λb=>Nat.ble 0 b):=by unfold a8t;rw[hr];simp only[List.take_zero,List.flatMap_nil,List.nil_append];rw[show a36=a36-3+3 from rfl,ht,List.filter_append];rfl
 have key:∀(x i:Nat),([c,p,b]++t.filter (λb=>Nat.ble 0 b)).idxOf? x=some i→b50 0 (a8t 0 (a1r keep F) H) x=some i:=by intro x i hx;unfold b50;rw[show Nat.blt x 0=false from rfl,cond_false,hi,hx];simp
 have hne:∀{x y:Nat},x≠y→(x==y)=false:=λh=>beq_eq_false_iff_ne.2 h;refine⟨key c 0 ?_,key p 1 ?_,key b 2 ?_⟩
 ·simp[List.idxOf?_cons]
 ·simp[List.idxOf?_cons,hne h1]
 ·simp[List.idxOf?_cons,hne h2,hne h3]
theorem b7w{H:a02}{b:Nat}{o:AObj}(h:a01 H b=some o):H[b]?=some (some o):=by
 unfold a01 at h;cases hx:H[b]? with
 |none=>rw[hx]at h;cases h
 |some y=>rw[hx]at h;simp only[Option.join_some]at h;rw[h]
theorem c4q{H:a02}{a b c:AObj}(h0:a01 H 0=some a)(h1:a01 H 1=some b)(h2:a01 H 2=some c):H.take 3=[some a,some b,some c]:=by
 have g0:=b7w h0;have g1:=b7w h1;have g2:=b7w h2
 match H,g0,g1,g2 with
 |x0::x1::x2::r,g0,g1,g2=>simp at g0 g1 g2;subst g0;subst g1;subst g2;rfl
theorem a4g{m:Nat}{d:AV→Option AV}:∀{rows:List (List AV)},FlatR rows→frzT m d rows=some rows
 | [],_=>rfl
 |r::rows,h=>by have h1:a56 m true d r=some r:=a5x _ _ _ _ (h r (List.mem_cons_self ..));have h2:frzT m d rows=some rows:=a4g λx hx=>h x (List.mem_cons_of_mem _ hx);simp only[frzT,h1,h2]
section
variable {H H1:a02}{b k:Nat}{ids:Nat→Nat}{cp:Nat→Option Nat}{fo:List (List (List AV))}
theorem Two.put(h:Two H b k ids cp fo){j n:Nat}{f:List (List AV)}(hf:fo[j]?=some [])(hne:f≠[])(hx:FlatR f)(hn:H.length≤n)
 (h1:a01 H1 b=some (.row 1 ((a2c ids cp fo).set j [.slice n 0 f.length (cp j)])))(h2:a01 H1 n=some (.row k f))
 (h3:∀(i:Nat) (g:List (List AV)),i≠j→fo[i]?=some g→g≠[]→a01 H1 (ids i)=a01 H (ids i)) :
 Two H1 b k (λi=>if i=j then n else ids i) cp (fo.set j f):=by
 have hjl:j<fo.length:=(List.getElem?_eq_some_iff.1 hf).1;have hlt:∀(i:Nat) (g:List (List AV)),fo[i]?=some g→g≠[]→ids i<H.length:=λi g hg hne=>a1c (h.sub i g hg hne).1;have hbl:b<H.length:=a1c h.top;refine⟨?_,?_,?_,?_⟩
 ·rw[h1]
  congr 2
  apply List.ext_getElem?;intro i;unfold a2c;rw[List.getElem?_set,List.length_mapIdx];by_cases hij:j=i
  ·subst hij;simp only[if_true,hjl];rw[List.getElem?_mapIdx,List.getElem?_set];simp only[if_true,hjl,Option.map_some,b5f _ _ hne]
  ·simp only[if_neg hij];rw[List.getElem?_mapIdx,List.getElem?_mapIdx,List.getElem?_set,if_neg hij];simp only[if_neg (Ne.symm hij)]
 ·intro i g hg hne';rw[List.getElem?_set]at hg;by_cases hij:j=i
  ·subst hij;simp only[if_true,hjl,Option.some.injEq]at hg;subst hg;simp only[if_true];exact⟨h2,by omega⟩
  ·rw[if_neg hij]at hg;simp only[if_neg (Ne.symm hij)];rw[h3 i g (Ne.symm hij) hg hne'];exact h.sub i g hg hne'
 ·intro i i' g g' hg hg' hne1 hne' e;rw[List.getElem?_set]at hg hg';by_cases hij:j=i<;>by_cases hij':j=i'
  ·omega
  ·subst hij;simp only[if_neg hij']at hg';simp only[if_true,if_neg (Ne.symm hij')]at e;have:=hlt i' g' hg' hne';omega
  ·subst hij';simp only[if_neg hij]at hg;simp only[if_true,if_neg (Ne.symm hij)]at e;have:=hlt i g hg hne1;omega
  ·simp only[if_neg hij]at hg;simp only[if_neg hij']at hg';simp only[if_neg (Ne.symm hij),if_neg (Ne.symm hij')]at e;exact h.inj i i' g g' hg hg' hne1 hne' e
 ·intro g hg;rcases List.mem_or_eq_of_mem_set hg with hg|rfl
  ·exact h.flat g hg
  ·exact hx
theorem Two.frzT(h:Two H b k ids cp fo)(m:Nat)(hm:∀j f,fo[j]?=some f→f≠[]→m≤ids j):frzT m (a4h (a01 H) m 12) (a2c ids cp fo)=some (fo.mapIdx λj f=>[slF (cp j) f]):=by
 have key:∀(rows:List (List AV)) (out:List (List AV)),rows.length=out.length→(∀(j:Nat) r o,rows[j]?=some r→out[j]?=some o→a56 m true (a4h (a01 H) m 12) r=some o)→Go.Ax.frzT m (a4h (a01 H) m 12) rows=some out:=by
  intro rows
  induction rows with
  |nil=>intro out hl _;cases out with|nil=>rfl|cons=>simp at hl
  |cons r rows ih=>
   intro out hl hh;cases out with
   |nil=>simp at hl
   |cons o out=>simp only[Go.Ax.frzT];rw[hh 0 r o rfl rfl,ih out (by simpa using hl) (λj r o hr ho=>hh (j+1) r o (by simpa using hr) (by simpa using ho))]
 refine key _ _ (by rw[a2l];simp) ?_;intro j r o hr ho;rw[List.getElem?_mapIdx]at ho;cases hf:fo[j]? with
 |none=>rw[hf]at ho;cases ho
 |some f=>
  rw[hf]at ho;rw[a51 hf]at hr;cases ho;cases hr;rw[a3l,b81];cases f with
  |nil=>rfl
  |cons x xs=>obtain⟨g1,_⟩:=h.sub j _ hf (by simp);have hml:=hm j _ hf (by simp);have hfl:=h.flat _ (List.mem_of_getElem? hf);simp only[slV,slF];rw[a5w,decide_eq_false (Nat.not_lt.2 hml),cond_false,a4r (eq_true (by omega:0<12)),g1];simp only[a95,a0g,List.drop_zero,Nat.zero_add];rw[decide_eq_true (by simp),cond_true];have:List.take (xs.length+1) (x::xs)=x::xs:=List.take_length (l:=x::xs);rw[this,a17 _ _ hfl]
end
end Go.Ax
/- AxTwZ: a slice of slices: a new slice behind the others, a slice that is b2j. -/
namespace Go.Ax
section
variable {H H1:a02}{b k:Nat}{ids:Nat→Nat}{cp:Nat→Option Nat}{fo:List (List (List AV))}
theorem Two.snoc(h:Two H b k ids cp fo){b' x:Nat}{f:List (List AV)}(hne:f≠[])(hf:FlatR f)(hb:H.length≤b')(hx:H.length≤x)(hxb:x≠b')
 (h1:a01 H1 b'=some (.row 1 (a2c ids cp fo++[[.slice x 0 f.length (cp fo.length)]])))(h2:a01 H1 x=some (.row k f))
 (h3:∀(j:Nat) (g:List (List AV)),fo[j]?=some g→g≠[]→a01 H1 (ids j)=a01 H (ids j)) :
 Two H1 b' k (λj=>if j=fo.length then x else ids j) cp (fo++[f]):=by
 have hlt:∀(i:Nat) (g:List (List AV)),fo[i]?=some g→g≠[]→ids i<H.length:=λi g hg hne=>a1c (h.sub i g hg hne).1;have hat:∀(i:Nat) (g:List (List AV)),(fo++[f])[i]?=some g→(i=fo.length∧g=f)∨(i≠fo.length∧fo[i]?=some g):=by
  intro i g hg;by_cases hi:i<fo.length
  ·rw[List.getElem?_append_left hi]at hg;exact .inr ⟨by omega,hg⟩
  ·rw[List.getElem?_append_right (by omega)]at hg;have hl:=(List.getElem?_eq_some_iff.1 hg).1;simp only[List.length_singleton]at hl;have e:i-fo.length=0:=by omega
   rw[e]at hg;exact .inl ⟨by omega,by simpa using hg.symm⟩
 refine⟨?_,?_,?_,?_⟩
 ·rw[h1]
  congr 2
  unfold a2c;rw[List.mapIdx_append]
  congr 1
  ·apply List.ext_getElem?;intro i;rw[List.getElem?_mapIdx,List.getElem?_mapIdx];cases hg:fo[i]? with
   |none=>rfl
   |some g=>have hi:=(List.getElem?_eq_some_iff.1 hg).1;simp only[Option.map_some,if_neg (show i≠fo.length by omega)]
  ·simp[b5f _ _ hne]
 ·intro i g hg hne';rcases hat i g hg with ⟨rfl,rfl⟩|⟨hi,hg⟩
  ·simp only[if_true];exact⟨h2,hxb⟩
  ·simp only[if_neg hi];have:=hlt i g hg hne';exact⟨by rw[h3 i g hg hne'];exact(h.sub i g hg hne').1,by omega⟩
 ·intro i j g g' hg hg' hn1 hn2 e;rcases hat i g hg with ⟨hi,he⟩|⟨hi,hk⟩<;>rcases hat j g' hg' with ⟨hj,he'⟩|⟨hj,hk'⟩
  ·omega
  ·simp only[if_pos hi,if_neg hj]at e;have:=hlt j g' hk' hn2;omega
  ·simp only[if_pos hj,if_neg hi]at e;have:=hlt i g hk hn1;omega
  ·simp only[if_neg hi,if_neg hj]at e;exact h.inj i j g g' hk hk' hn1 hn2 e
 ·intro g hg;rw[List.mem_append,List.mem_singleton]at hg;rcases hg with hg|rfl
  ·exact h.flat g hg
  ·exact hf
theorem Two.one{x:Nat}{f:List (List AV)}(hne:f≠[])(hf:FlatR f)(hxb:x≠b)
 (h1:a01 H b=some (.row 1 [[.slice x 0 f.length (cp 0)]]))(h2:a01 H x=some (.row k f)):Two H b k (λ_=>x) cp [f]:=by
 have hat:∀(i:Nat) (g:List (List AV)),[f][i]?=some g→i=0∧g=f:=by
  intro i g hg;have hl:=(List.getElem?_eq_some_iff.1 hg).1;simp only[List.length_singleton]at hl;obtain rfl:i=0:=by omega
  exact⟨rfl,by simpa using hg.symm⟩
 refine⟨?_,?_,?_,?_⟩
 ·rw[h1];congr 2;simp[a2c,b5f _ _ hne]
 ·intro i g hg hne';obtain⟨rfl,rfl⟩:=hat i g hg;exact⟨h2,hxb⟩
 ·intro i j g g' hg hg' _ _ _;rw[(hat i g hg).1,(hat j g' hg').1]
 ·intro g hg;rw[List.mem_singleton]at hg;subst hg;exact hf
theorem Two.upd(h:Two H b k ids cp fo){j:Nat}{f f':List (List AV)}(hfj:fo[j]?=some f)(hne:f≠[])(hl:f'.length=f.length)(hf':FlatR f')(hbj:ids j<H.length) :
 Two (H.set (ids j) (some (.row k f'))) b k ids cp (fo.set j f'):=by
 have hjl:j<fo.length:=(List.getElem?_eq_some_iff.1 hfj).1;have hne':f'≠[]:=by intro e;subst e;exact hne (List.length_eq_zero_iff.1 hl.symm)
 have hat:∀(i:Nat) (g:List (List AV)),(fo.set j f')[i]?=some g→(i=j∧g=f')∨(i≠j∧fo[i]?=some g):=by
  intro i g hg;rw[List.getElem?_set]at hg;by_cases hij:j=i
  ·subst hij;simp only[if_true,hjl,Option.some.injEq]at hg;exact .inl ⟨rfl,hg.symm⟩
  ·rw[if_neg hij]at hg;exact .inr ⟨Ne.symm hij,hg⟩
 have hinj:∀(i:Nat) (g:List (List AV)),i≠j→fo[i]?=some g→g≠[]→ids j≠ids i:=λi g hij hg hn e=>hij (h.inj j i f g hfj hg hne hn e).symm;refine⟨?_,?_,?_,?_⟩
 ·rw[a38 (h.sub j f hfj hne).2,h.top]
  congr 2
  apply List.ext_getElem?;intro i;unfold a2c;rw[List.getElem?_mapIdx,List.getElem?_mapIdx,List.getElem?_set];by_cases hij:j=i
  ·subst hij;simp only[if_true,hjl,hfj,Option.map_some,b5f _ _ hne,b5f _ _ hne',hl]
  ·simp only[if_neg hij]
 ·intro i g hg hn;rcases hat i g hg with ⟨rfl,rfl⟩|⟨hi,hg⟩
  ·exact⟨b1j hbj,(h.sub i f hfj hne).2⟩
  ·rw[a38 (hinj i g hi hg hn)];exact h.sub i g hg hn
 ·intro i i' g g' hg hg' hn1 hn2 e;rcases hat i g hg with ⟨hi,he⟩|⟨hi,hk⟩<;>rcases hat i' g' hg' with ⟨hj,he'⟩|⟨hj,hk'⟩
  ·omega
  ·subst hi;exact absurd e (hinj i' g' hj hk' hn2)
  ·subst hj;exact absurd e.symm (hinj i g hi hk hn1)
  ·exact h.inj i i' g g' hk hk' hn1 hn2 e
 ·intro g hg;rcases List.mem_or_eq_of_mem_set hg with hg|rfl
  ·exact h.flat g hg
  ·exact hf'
end
theorem a9g{E:Env}{d:Bool}{call:CallF}{g:FuncId}{fs cs ar args:List AV}{H L:a02}{v:AV}(hx:E.ext g=false)(hf:(E.fn g).isSome=true)(he:fs++ar++cs=args)(hargs:a0e args=[])(hr:call g args []=some (v,L)) :
 a0a E d call (.func (.func g) fs cs) ar H=some (ren (a19 [] H.length) v,H++L.map (Option.map (a0f (a19 [] H.length))),[]):=by
 have hc:=a1z (call g) args H (σ:=[]) (by rw[hargs];rfl) rfl rfl (args':=args) (a35 _ hargs) (H0:=[]) rfl hr;rw[a71]at hc;simp only[List.length_nil,List.drop_zero]at hc;exact d53 hx hf he hc (by simp)
section
variable {L:a02}{b k:Nat}{ids:Nat→Nat}{cp:Nat→Option Nat}{fo:List (List (List AV))}
theorem b3q(H:a02)(i:Nat):a01 (H++L.map (Option.map (a0f (a19 [] H.length)))) (H.length+i)=(a01 L i).map (a0f (a19 [] H.length)):=by rw[a6a];unfold a01;rw[List.getElem?_map];cases L[i]?<;>rfl
theorem b4k(n i:Nat):a19 [] n i=some (n+i):=by
 have h:Nat.blt i 0=false:=by cases i<;>rfl
 simp[a19,h]
theorem Two.shift(h:Two L b k ids cp fo)(H:a02):Two (H++L.map (Option.map (a0f (a19 [] H.length)))) (H.length+b) k (λj=>H.length+ids j) cp fo:=by
 refine⟨?_,?_,?_,h.flat⟩
 ·rw[b3q,h.top];show some (a0f _ _)=_
  congr 1
  show AObj.row 1 _=_
  congr 1
  apply List.ext_getElem?;intro j;rw[List.getElem?_map];cases hf:fo[j]? with
  |none=>have hl:fo.length≤j:=List.getElem?_eq_none_iff.1 hf;rw[List.getElem?_eq_none (by rw[a2l];exact hl),List.getElem?_eq_none (by rw[a2l];exact hl)];rfl
  |some f=>rw[a51 hf,a51 hf];simp only[Option.map_some,List.map_cons,List.map_nil];rw[c1d (c:=H.length+ids j) (λ_=>b4k _ _)]
 ·intro j f hf hne;obtain⟨h1,h2⟩:=h.sub j f hf hne;refine⟨?_,by omega⟩;rw[b3q,h1];show some (AObj.row k _)=_;rw[a06 _ (h.flat f (List.mem_of_getElem? hf))]
 ·intro i j f g hf hg h1 h2 e;exact h.inj i j f g hf hg h1 h2 (by omega)
end
section
variable {H2:a02}{b k:Nat}{ids:Nat→Nat}{cp:Nat→Option Nat}{fo:List (List (List AV))}
theorem Two.head3{keep:List Nat}{F1:Frm}(hT:Two H2 b k ids cp fo){x y kx ky:Nat}{X Y:List (List AV)}(hx:a01 H2 x=some (.row kx X))(hfx:FlatR X)(hy:a01 H2 y=some (.row ky Y))(hfy:FlatR Y)(hF1:a0e ((a1r keep F1).map (·.2))=[x,y,b])(hn:fo.length<900000)(G:Nat→Nat→Nat→Frm)
 (hF2:∀(π:Nat→Option Nat) (x' y' b':Nat),π x=some x'→π y=some y'→π b=some b'→b5m π (a1r keep F1)=G x' y' b') :
 ∃F H,gcD 0 keep F1 H2=some (F,H)∧∃(x' y' b':Nat) (ids':Nat→Nat),F=G x' y' b'∧a01 H x'=some (.row kx X)∧a01 H y'=some (.row ky Y)∧Two H b' k ids' cp fo:=by
 refine hT.headX (P:=λF H=>∃(x' y' b':Nat) (ids':Nat→Nat),F=G x' y' b'∧a01 H x'=some (.row kx X)∧a01 H y'=some (.row ky Y)∧Two H b' k ids' cp fo) [x,y] ?_ (by rw[hF1];simp) (by rw[hF1];simp) (by rw[hF1];simp) (by rw[hF1];simp) hn ?_
 ·intro z hz;simp only[List.mem_cons,List.not_mem_nil,or_false]at hz;rcases hz with rfl|rfl
  ·rw[hx];exact a0m hfx
  ·rw[hy];exact a0m hfy
 ·intro π b' ids' H3 hb hT2 hX;obtain⟨x',e1,e2⟩:=hX x (by simp);obtain⟨y',e3,e4⟩:=hX y (by simp);refine⟨x',y',b',ids',hF2 π x' y' b' e1 e3 hb,?_,?_,hT2⟩
  ·rw[e2,hx];show some (AObj.row kx _)=_;rw[a06 π hfx]
  ·rw[e4,hy];show some (AObj.row ky _)=_;rw[a06 π hfy]
end
theorem b41{keep:List Nat}{F1:Frm}{H2:a02}{P Q:Frm→a02→Prop}(h:∃F H,gcD 0 keep F1 H2=some (F,H)∧P F H)(hq:∀F H,P F H→Q F H):∃F H,gcD 0 keep F1 H2=some (F,H)∧Q F H:=by obtain⟨F,H,h1,h2⟩:=h;exact⟨F,H,h1,hq F H h2⟩
end Go.Ax
/- AxTwc: a slice of rows that grows, and the row that is to come next: a block of rows, a block for each row that is not empty. -/
namespace Go.Ax
def cpN:Nat→Option Nat:=λ_=>none
def c3f(b:Nat)(fo:List (List (List AV))):AV:=match fo with|[]=>.nilslice|_::r=>.slice b 0 (r.length+1) none
section
variable {H H1:a02}{b:Nat}{ids:Nat→Nat}{fo:List (List (List AV))}{cur:List (List AV)}
end
end Go.Ax
/- AxLog: the look at a drawn region's log, the order first. -/
namespace Go.Ax
def a75(all:List Oper)(j:Nat)(y:LogE):Nat→List LogE→Bool
 |_,[]=>true
 |0,_::_=>false
 |i+1,x::rest=>(a4a all i j || !(x.clash y))&&a75 all j y i rest
def a9x(all:List Oper):Nat→List LogE→Bool
 |_,[]=>true
 |0,_::_=>false
 |j+1,y::rest=>a75 all j y j rest&&a9x all j rest
theorem b62(all:List Oper)(j:Nat)(y:LogE):∀(i:Nat) (l:List LogE),a75 all j y i l=logOk.logRow all j y i l
 |_,[]=>by unfold a75 logOk.logRow;rfl
 |0,_::_=>by unfold a75 logOk.logRow;rfl
 |i+1,x::rest=>by unfold a75 logOk.logRow;rw[b62 all j y i rest,Bool.or_comm]
theorem b9s(all:List Oper):∀(i:Nat) (l:List LogE),a9x all i l=logOk all i l
 |_,[]=>by unfold a9x logOk;rfl
 |0,_::_=>by unfold a9x logOk;rfl
 |j+1,y::rest=>by unfold a9x logOk;rw[b9s all j rest,b62]
theorem xs2{F F1:Frm}{H H1:a02}{Q:a9j}{E:Env}{M:List Fact}{m N:Nat}{g:FuncId}{cur:Nat}{id ops draw}{log:List LogE}(h:a8w E draw N (sem E M) ops.toList ops.toList [] F H=some (F1,H1,log))(hl:(!draw||a9x ops.toList log.length log)=true)(hq:Q .normal F1 H1):Wp (cx E M m N g cur) (.region id ops draw) F H Q:=xs h (by rw[←b9s];exact hl) hq
def c6w(all:List Oper)(j:Nat)(y:LogE):List LogE→Prop
 | []=>True
 |x::rest=>(a4a all rest.length j=true∨x.clash y=false)∧c6w all j y rest
def d6u(all:List Oper):List LogE→Prop
 | []=>True
 |y::rest=>c6w all rest.length y rest∧d6u all rest
theorem b7o{all:List Oper}:d6u all []:=by unfold d6u;trivial
theorem b3d{all:List Oper}{y:LogE}{rest:List LogE}(h1:c6w all rest.length y rest)(h2:d6u all rest):d6u all (y::rest):=by unfold d6u;exact⟨h1,h2⟩
theorem b7d{all:List Oper}{j:Nat}{y:LogE}:c6w all j y []:=by unfold c6w;trivial
theorem b7c{all:List Oper}{j:Nat}{y x:LogE}{rest:List LogE}(h1:a4a all rest.length j=true)(h2:c6w all j y rest):c6w all j y (x::rest):=by unfold c6w;exact⟨.inl h1,h2⟩
theorem b7e{all:List Oper}{j:Nat}{y x:LogE}{rest:List LogE}(h1:x.clash y=false)(h2:c6w all j y rest):c6w all j y (x::rest):=by unfold c6w;exact⟨.inr h1,h2⟩
theorem c7x{all:List Oper}{j:Nat}{y:LogE}:∀{l:List LogE},c6w all j y l→a75 all j y l.length l=true
 | [],_=>by unfold a75;rfl
 |x::rest,h=>by
  rw[List.length_cons];unfold a75;rw[c7x h.2,Bool.and_true];rcases h.1 with h1|h1
  ·rw[h1,Bool.true_or]
  ·rw[h1];simp
theorem c8z{all:List Oper}:∀{l:List LogE},d6u all l→a9x all l.length l=true
 | [],_=>by unfold a9x;rfl
 |y::rest,h=>by rw[List.length_cons];unfold a9x;rw[c8z h.2,Bool.and_true];exact c7x h.1
theorem xs3{F F1:Frm}{H H1:a02}{Q:a9j}{E:Env}{M:List Fact}{m N:Nat}{g:FuncId}{cur:Nat}{id ops draw}{log:List LogE}(h:a8w E draw N (sem E M) ops.toList ops.toList [] F H=some (F1,H1,log))(hl:d6u ops.toList log)(hq:Q .normal F1 H1):Wp (cx E M m N g cur) (.region id ops draw) F H Q:=xs2 h (by rw[c8z hl];simp) hq
theorem b4a{x y:LogE}(h1:∀a∈x.keys,a∉y.needs)(h2:∀a∈x.keys,a∉y.keys)(h3:∀a∈x.needs,a∉y.keys):x.clash y=false:=by
 have hm:∀l k:List Nat,(∀a∈l,a∉k)→b3a l k=false:=by
  intro l k h;unfold b3a;rw[List.any_eq_false];intro a ha;have:=h a ha;rw[Bool.not_eq_true];cases hc:a0r k a with
  |false=>rfl
  |true=>exact absurd (a1v.1 hc) this
 unfold LogE.clash;rw[hm _ _ h1,hm _ _ h2,hm _ _ h3];rfl
end Go.Ax
namespace Go.Ax
end Go.Ax
/- AxLd: lent calls in the walks. -/
namespace Go.Ax
theorem a6u{E:Env}{draw:Bool}{call:CallF}{g:FuncId}{fs cs as args args':List AV}{H H1:a02}{v v':AV}(hx:E.ext g=true)(hf:(E.fn g).isSome=true)(he:fs++as++cs=args)(h1:a56 0 false (a4h (a01 H) 0 12) args=some args')(hr:call g args' []=some (v,H1))(hn:noI v=true)(hv:a3a 0 false (a4h (a6t H1) 0 12) v=some v') :
 a0a E draw call (.func (.func g) fs cs) as H=some (v',H,List.range H.length):=by
 simp only[a0a,hx,hf,he,cond_true,a80,h1,hr,hn,hv]
end Go.Ax
/- AxWpY: rules for a function whose own memory is frozen behind its first outermost statements. -/
namespace Go.Ax
def WpY(x:Cx)(j:Nat):Nat→Code→Frm→a02→a9j→Prop
 |0,c,F,H,Q=>Wp x c F H Q
 |n+1,c,F,H,Q=>match c with
  |.seq a b=>Wp x a F H λe F1 H1=>match e with
   |.normal=>WpY x j n b (b82 (x.m0+j) H1 F1) (b0e (x.m0+j) H1) Q
   |e=>Q e F1 H1
  |c=>Wp x c F H Q
def zq(x:Cx)(j n:Nat)(b:Code)(Q:a9j):a9j:=λe F H=>match e with
 |.normal=>WpY x j n b (b82 (x.m0+j) H F) (b0e (x.m0+j) H) Q
 |e=>Q e F H
theorem a6x{x:Cx}{j n:Nat}{a b:Code}{F:Frm}{H:a02}{Q:a9j}(h:Wp x a F H (zq x j n b Q)):WpY x j (n+1) (.seq a b) F H Q:=h
theorem d1x{x:Cx}{j:Nat}{c:Code}{F:Frm}{H:a02}{Q:a9j}(h:Wp x c F H Q):WpY x j 0 c F H Q:=h
theorem a7m{E:Env}{M:List Fact}{m N:Nat}{g:FuncId}{cur j n:Nat}{b:Code}{F:Frm}{H:a02}{Q:a9j}:zq (cx E M m N g cur) j n b Q .normal F H=WpY (cx E M m N g cur) j n b (b82 (m+j) H F) (b0e (m+j) H) Q:=by rfl
def EvY(x:Cx)(j n:Nat)(c:Code)(F:Frm)(H:a02)(r:AExit×Frm×a02):Prop:=∃n0,∀lf,n0≤lf→∀(R:Type) (k:AExit→Frm→a02→Option R),e1q x.E x.m0 x.N x.keep (sem x.E x.M) lf j n x.cur c F H k=k r.1 r.2.1 r.2.2
theorem d5p{x:Cx}{j:Nat}{Q:a9j}:∀(n:Nat) (c:Code) {F:Frm} {H:a02},WpY x j n c F H Q→∃e F' H',EvY x j n c F H (e,F',H')∧Q e F' H':=by
 intro n
 induction n with
 |zero=>intro c F H h;obtain⟨e,F',H',⟨n0,h1⟩,h2⟩:=b90 c h;exact⟨e,F',H',⟨n0,h1⟩,h2⟩
 |succ n ih=>
  intro c F H h;cases c with
  |seq a b=>
   obtain⟨e,F1,H1,⟨n0,h1⟩,h2⟩:=b90 a (a6x h:_);cases e with
   |normal=>obtain⟨e,F',H',⟨n1,h3⟩,h4⟩:=ih b h2;refine⟨e,F',H',⟨n0+n1,λlf hl R k=>?_⟩,h4⟩;exact(h1 lf (by omega) R _).trans (h3 lf (by omega) R k)
   |exit id=>exact⟨_,_,_,⟨n0,λlf hl R k=>h1 lf hl R _⟩,h2⟩
   |ret=>exact⟨_,_,_,⟨n0,λlf hl R k=>h1 lf hl R _⟩,h2⟩
  |_=>obtain⟨e,F',H',⟨n0,h1⟩,h2⟩:=b90 _ h;exact⟨e,F',H',⟨n0,h1⟩,h2⟩
theorem c7t{E:Env}{M:List Fact}{g:FuncId}{args:List AV}{H:a02}{code:Code}{N j n:Nat}{results:List ResultVar}{e:AExit}{F':Frm}{H':a02}{vs:List AV}{v:AV}{H2:a02}
 (hfn:E.fn g=some ⟨code,N,results⟩)(hno:∀y∈M,y.g≠g)(hN:Nat.ble args.length N=true)(h:EvY ⟨E,M,H.length,N,E.keep g,0⟩ j n code (a3b 0 args) H (e,F',H'))(he:∀id,e≠ .exit id)
 (hr:a10 E F' H' results=some vs)(hfin:a26 (E.thaw g) H.length (a62 vs) H'=some (v,H2))(hp:E.prim g args=none)(hz:E.zf g=true)(hzn:E.zn g=n+1)(hzj:E.zj g=j)(hw:E.raw g=false):sem E M g args H=some (v,H2):=by
 obtain⟨n1,h⟩:=h;refine b75 hno n1 ?_;unfold a9q;have hph:b9h E g args H=none:=by
  unfold b9h;cases H with
  |nil=>exact hp
  |cons a r=>rfl
 rw[hph,hfn];simp only;rw[hN];simp only[cond_true];unfold e1r;rw[hz,hzn,hzj];simp only[cond_true];refine(h n1 (Nat.le_refl _) _ _).trans ?_;cases e with
 |exit id=>exact absurd rfl (he id)
 |normal=>simp only[hr,c6u,hw];exact hfin
 |ret=>simp only[hr,c6u,hw];exact hfin
theorem svY{E:Env}{M:List Fact}{g:FuncId}{args:List AV}{H:a02}{r:AV×a02}(f:Func)(j n:Nat)(h:WpY (cx E M H.length f.ntmps g 0) j n (f.body.getD .skip) (a3b 0 args) H (fq E g H.length f.results.toList r))(hfn:E.fn g=some ⟨f.body.getD .skip,f.ntmps,f.results.toList⟩:=by kernel_rfl)
 (hno:(M.all λy=>!Nat.beq y.g g)=true:=by rfl)(hN:Nat.ble args.length f.ntmps=true:=by rfl)(hp:E.prim g args=none:=by rfl)(hz:E.zf g=true:=by rfl)(hzn:E.zn g=n+1:=by rfl)(hzj:E.zj g=j:=by rfl)(hw:E.raw g=false:=by rfl):sem E M g args H=some r:=by
 obtain⟨e,F',H',h1,h2⟩:=d5p _ _ h;have hno':∀y∈M,y.g≠g:=λy hy e=>by have:=List.all_eq_true.1 hno y hy;rw[e]at this;simp at this
 obtain⟨v,H2⟩:=r;cases e with
 |normal=>obtain⟨vs,h3,h4⟩:=h2;exact c7t hfn hno' hN h1 (λ_ h=>by cases h) h3 h4 hp hz hzn hzj hw
 |ret=>obtain⟨vs,h3,h4⟩:=h2;exact c7t hfn hno' hN h1 (λ_ h=>by cases h) h3 h4 hp hz hzn hzj hw
 |exit id=>exact h2.elim
def fqR(E:Env)(results:List ResultVar)(r:AV×a02):a9j:=λe F H=>match e with|.exit _=>False|_=>∃vs,a10 E F H results=some vs∧(a62 vs,H)=r
theorem e8m{E:Env}{results:List ResultVar}{r:AV×a02}{F:Frm}{H:a02}{vs:List AV}(h1:a10 E F H results=some vs)(h2:(a62 vs,H)=r):fqR E results r .ret F H:=⟨vs,h1,h2⟩
theorem c36{E:Env}{M:List Fact}{g:FuncId}{args:List AV}{H:a02}{code:Code}{N j n:Nat}{results:List ResultVar}{e:AExit}{F':Frm}{H':a02}{vs:List AV}
 (hfn:E.fn g=some ⟨code,N,results⟩)(hno:∀y∈M,y.g≠g)(hN:Nat.ble args.length N=true)(h:EvY ⟨E,M,H.length,N,E.keep g,0⟩ j n code (a3b 0 args) H (e,F',H'))(he:∀id,e≠ .exit id)
 (hr:a10 E F' H' results=some vs)(hp:E.prim g args=none)(hz:E.zf g=true)(hzn:E.zn g=n+1)(hzj:E.zj g=j)(hw:E.raw g=true):sem E M g args H=some (a62 vs,H'):=by
 obtain⟨n1,h⟩:=h;refine b75 hno n1 ?_;unfold a9q;have hph:b9h E g args H=none:=by
  unfold b9h;cases H with
  |nil=>exact hp
  |cons a r=>rfl
 rw[hph,hfn];simp only;rw[hN];simp only[cond_true];unfold e1r;rw[hz,hzn,hzj];simp only[cond_true];refine(h n1 (Nat.le_refl _) _ _).trans ?_;cases e with
 |exit id=>exact absurd rfl (he id)
 |normal=>simp only[hr,c6u,hw,cond_true]
 |ret=>simp only[hr,c6u,hw,cond_true]
theorem f3p{E:Env}{M:List Fact}{g:FuncId}{args:List AV}{H:a02}{r:AV×a02}(f:Func)(j n:Nat)(h:WpY (cx E M H.length f.ntmps g 0) j n (f.body.getD .skip) (a3b 0 args) H (fqR E f.results.toList r))(hfn:E.fn g=some ⟨f.body.getD .skip,f.ntmps,f.results.toList⟩:=by kernel_rfl)
 (hno:(M.all λy=>!Nat.beq y.g g)=true:=by rfl)(hN:Nat.ble args.length f.ntmps=true:=by rfl)(hp:E.prim g args=none:=by rfl)(hz:E.zf g=true:=by rfl)(hzn:E.zn g=n+1:=by rfl)(hzj:E.zj g=j:=by rfl)(hw:E.raw g=true:=by rfl):sem E M g args H=some r:=by
 obtain⟨e,F',H',h1,h2⟩:=d5p _ _ h;have hno':∀y∈M,y.g≠g:=λy hy e=>by have:=List.all_eq_true.1 hno y hy;rw[e]at this;simp at this
 cases e with
 |normal=>obtain⟨vs,h3,rfl⟩:=h2;exact c36 hfn hno' hN h1 (λ_ h=>by cases h) h3 hp hz hzn hzj hw
 |ret=>obtain⟨vs,h3,rfl⟩:=h2;exact c36 hfn hno' hN h1 (λ_ h=>by cases h) h3 hp hz hzn hzj hw
 |exit id=>exact h2.elim
end Go.Ax
/- AxPre: calls that see the first blocks of the caller's memory, as they lie. -/
namespace Go.Ax
theorem c9s{n i:Nat}:(List.range n).idxOf? i=if i<n then some i else none:=by
 by_cases h:i<n
 ·rw[if_pos h];exact a69 List.nodup_range (by rw[List.getElem?_range h])
 ·rw[if_neg h,List.idxOf?_eq_none_iff];simpa using h
theorem c9w{P K:a02}{b:Nat}(h:b<P.length):a01 (P++K) b=a01 P b:=by unfold a01;rw[List.getElem?_append_left h]
theorem c8u(P:a02):(List.range P.length).map (a01 P)=P:=by
 apply List.ext_getElem?;intro i;rw[List.getElem?_map];by_cases h:i<P.length
 ·rw[List.getElem?_range h,z9e h];simp only[Option.map_some,a01,z9e h];rfl
 ·rw[List.getElem?_eq_none (by simpa using h),List.getElem?_eq_none (by omega)];rfl
theorem d10{E:Env}{draw:Bool}{call:CallF}{g:FuncId}{fs cs ar args:List AV}{P P' K:a02}{v:AV}{n:Nat}(hx:E.ext g=false)(hf:(E.fn g).isSome=true)(he:fs++ar++cs=args)(hn:P.length=n)
 (hσ:a1t (P++K) 1000000 (a0e args) []=List.range n)(hra:args.map (ren (a7n (List.range n)))=args)(hP:P.map (Option.map (a0f (a7n (List.range n))))=P)(hr:call g args P=some (v,P'))(hl:P'.length=n)
 (hb:P'.map (Option.map (a0f (a19 (List.range n) (P++K).length)))=P')(hv:refs v=[]):a0a E draw call (.func (.func g) fs cs) ar (P++K)=some (v,P'++K,List.range n):=by
 have hnd:a4l (List.range n)=true:=a9t List.nodup_range;have hall:((List.range n).all λb=>decide (b<(P++K).length))=true:=by rw[List.all_eq_true];intro b hb;have:=List.mem_range.1 hb;rw[decide_eq_true_eq,List.length_append];omega
 have hsm:a44 (P++K) (List.range n) (a7n (List.range n))=P:=by
  unfold a44;have e:((List.range n).map λb=>(a01 (P++K) b).map (a0f (a7n (List.range n))))=((List.range n).map (a01 P)).map (Option.map (a0f (a7n (List.range n)))):=by rw[List.map_map];apply List.map_congr_left;intro b hb;have hbn:=List.mem_range.1 hb;simp only[Function.comp,c9w (K:=K) (show b<P.length by omega)]
  rw[e,←hn,c8u,hn,hP]
 have hc:=a1z (call g) args (P++K) hσ hnd hall hra hsm hr;have hpb:a16 (List.range n) (P++K).length P' 0 (P++K)=P'++K:=by
  apply List.ext_getElem?;intro i;rw[a7v,Nat.zero_add,c9s];by_cases h:i<n
  ·rw[if_pos h,List.getElem?_append_left (by omega),List.getElem?_append_left (by omega)];rw[z9e (show i<P.length by omega)];simp only[Option.map_some];have h2:=congrArg (λl=>l[i]?) hb;simp only[List.getElem?_map]at h2;rw[z9e (show i<P'.length by omega)]at h2⊢;simp only[Option.map_some]at h2;rw[←h2];simp only[a01,z9e (show i<P'.length by omega)];rfl
  ·rw[if_neg h,List.getElem?_append_right (by omega),List.getElem?_append_right (by omega),hn,hl];cases K[i-n]? with
   |none=>rfl
   |some o=>rfl
 have hdr:P'.drop (List.range n).length=[]:=by rw[List.length_range];exact List.drop_of_length_le (by omega)
 rw[a0d _ v hv,hpb,hdr,List.map_nil,List.append_nil]at hc;exact a5e hx hf he hc (by simp only[List.length_append];omega)
def a65:a02→Prop
 | []=>True
 |some (.row _ rows)::H=>FlatR rows∧a65 H
 |_::_=>False
theorem d48:∀{n:Nat} {H G:a02} {d:AV→Option AV},a65 H→(H.take n).map (Option.map (a9e n d))=H.take n:=by
 intro n H G d
 suffices h:∀(j:Nat) (H:a02),a65 H→(H.take j).map (Option.map (a9e n d))=H.take j from h n H
 intro j
 induction j with
 |zero=>intro H _;rfl
 |succ j ih=>
  intro H h
  match H,h with
  | [],_=>rfl
  |some (.row k rows)::H,h=>simp only[List.take_succ_cons,List.map_cons,Option.map_some,a9e,a4g h.1,ih H h.2]
theorem a1o{n:Nat}{H:a02}(h:a65 H):b0e n H=H.take n:=d48 (G:=[]) h
theorem e41{r:List AV}(h:a0e r=[]):FlatR [r]:=FlatR.cons h FlatR.nil
theorem a1f{r:List AV}:FlatR [r]↔a0e r=[]:=⟨λh=>h r (List.mem_singleton.2 rfl),e41⟩
theorem b8x{E:Env}{M:List Fact}{m N:Nat}{g:FuncId}{cur:Nat}:(cx E M m N g cur).m0=m:=by rfl
theorem d54{E:Env}{draw:Bool}{call:CallF}{g:FuncId}{fs cs as args:List AV}{H:a02}(hx:E.ext g=false)(hf:(E.fn g).isSome=true)(he:fs++as++cs=args){v:AV}{H':a02}{σ:List Nat}
 (h:a2h (call g) args H=some (v,H',σ))(hl:H.length≤H'.length):a0a E draw call (.func (.func g) fs cs) as H=some (v,H',σ):=by
 have hb:Nat.ble H.length H'.length=true:=by rw[Nat.ble_eq];exact hl
 simp only[a0a,hx,hf,he,cond_true,cond_false,h,hb,Bool.not_true,Bool.and_false]
end Go.Ax
