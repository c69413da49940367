/- AxTop: a call from outside: every old block is immutable. -/
import Derived.Test.YtnkhpfincnfloaaGreatDoorAxC
import Derived.Below
import GoSem.ClaimChange
import GoSem.ClaimJoined
import Derived.RowKit
import Derived.ChangeSame
import Derived.Carry
import Derived.IntWalk
import Derived.KernelRfl
set_option linter.unusedSimpArgs false
set_option linter.unusedVariables false
namespace Go.Ax
open Go.RowKit
def Old(w:World):Nat→Prop:=λc=>c<w.heap.size
def Holds(E:Env)(w:World):Prop:=∀g cs,E.G g=some cs→g<w.heap.size∧GAt (Old w) w cs g
theorem top_of{E:Env}{f:FuncId}{run:List AV→Heap→Option (AV×Heap)}(hfy:f≠yId)(hf:FunOk E f run){args:List AV}{v:AV}{H':Heap}(h:run args []=some (v,H')){w:World}(hG:Holds E w){cargs:List Value}(ha:VRels (Old w) w noP args cargs) :
 Calls E.P f cargs.toArray w λen w'=>∃c I' ρ',en = .returned c∧Below w.heap.size w w'∧VRel I' w' ρ' v c:=by
 have rel:HRel E.G (Old w) (λ_=>False) noP (HeapF []) w:=by
  refine⟨?_,?_,?_,λc hc=>hc,λc hc=>hc.elim,λ_ _ h=>h,hG⟩
  ·intro b o hb;simp[HeapF]at hb
  ·intro b b' m m' hb;simp[HeapF]at hb
  ·intro b m hb;simp[noP]at hb
 have h0:=hf args [] v H' h (Old w) (λ_=>False) noP w cargs rel (λ_ _=>rfl) ha;rw[XOf_fn hfy]at h0;refine Calls.mono h0 ?_
 rintro en w' ⟨c,I',ρ',rfl,hret,hv⟩
 exact⟨c,I',ρ',rfl,⟨hret.ext.os,hret.ext.tape,hret.ext.output,hret.ext.size,λk hk=>hret.ext.keep k (.inl hk)⟩,hv⟩
theorem top_true{E:Env}{f:FuncId}{run:List AV→Heap→Option (AV×Heap)}(hfy:f≠yId)(hf:FunOk E f run){args:List AV}{H':Heap}(h:run args []=some (.bool true,H')){w:World}(hG:Holds E w){cargs:List Value}(ha:VRels (Old w) w noP args cargs) :
 Calls E.P f cargs.toArray w λen w'=>en = .returned (.bool true)∧Below w.heap.size w w':=by
 refine(top_of hfy hf h hG ha).mono ?_
 rintro en w' ⟨c,I',ρ',rfl,hb,hv⟩
 simp only[VRel]at hv;subst hv;exact⟨rfl,hb⟩
end Go.Ax
/- AxRead: what the row's reading of an argument gives: abstract values of the argument's type. -/
namespace Go.Ax
def Typ(E:Env):Nat→TypeId→List AV→Prop
 |0,_,_=>False
 |n+1,t,avs=>match E.und t with
  |some .bool=>∃b,avs=[.bool b]
  |some (.int k)=>∃i,avs=[.int k i]∧(Lit.int k i).wf=true
  |some .string=>∃s,avs=[.str s]∧s.length≤maxLen
  |some (.slice e)=>avs=[.nilslice]∨∃rows cap,avs=[.islice rows (some cap)]∧rows.length≤cap∧cap≤maxLen∧∀r∈rows,r.length=E.sz e∧Typ E n e r
  |some (.struct fs)=>∃parts:List (List AV),avs=parts.flatten∧parts.length=fs.toList.length∧∀(i:Nat) f p,fs.toList[i]?=some f→parts[i]?=some p→p.length=E.sz f.type∧Typ E n f.type p
  |some (.array m e)=>∃parts:List (List AV),avs=parts.flatten∧parts.length=m∧∀p∈parts,p.length=E.sz e∧Typ E n e p
  |_=>False
def tiled(E:Env):Nat→List Field→Option Nat
 |o,[]=>some o
 |o,f::r=>bif Nat.beq f.offset o then tiled E (o+E.sz f.type) r else none
def readable(E:Env):Nat→TypeId→Bool
 |0,_=>false
 |n+1,t=>match E.und t with
  |some .bool=>true
  |some (.int _)=>true
  |some .string=>true
  |some (.slice e)=>(E.und e).isSome&&Nat.blt 0 (E.sz e)&&readable E n e
  |some (.struct fs)=>(match tiled E 0 fs.toList with|some m=>Nat.beq m (E.sz t)|none=>false)&&fs.toList.all (λf=>(E.und f.type).isSome&&readable E n f.type)
  |some (.array m e)=>(E.und e).isSome&&Nat.beq (m*E.sz e) (E.sz t)&&readable E n e
  |_=>false
section
variable {E:Env}{w:World}{H:Type}{enc:TypeId×Value→H}{base:Nat}{spare:Nat→Bool}{held:Bool}
theorem cellsOf_sz(ok:EnvOk E){t:TypeId}{d:TypeDesc}(h:E.und t=some d):E.P.cellsOf t=E.sz t:=by obtain⟨_,i,hi,h1,_⟩:=ok.und t d h;simp[Program.cellsOf,hi,h1]
theorem rows_of{I:Nat→Prop}{k:Nat}{b:Nat}{Pr:List AV→Prop}:∀(len off:Nat),(∀i,i<len→∃r,Pr r∧r.length=k∧VAt I w noP r b (off+i*k))→
 ∃rows:List (List AV),rows.length=len∧(∀r∈rows,r.length=k∧Pr r)∧VRows I w k noP rows b off
 |0,off,_=>⟨[],rfl,by simp,by simp[VRows]⟩
 |len+1,off,h=>by
  obtain⟨r,h1,h2,h3⟩:=h 0 (by omega);obtain⟨rows,g1,g2,g3⟩:=rows_of (Pr:=Pr) len (off+k) (λi hi=>by obtain⟨r,q1,q2,q3⟩:=h (i+1) (by omega);refine⟨r,q1,q2,?_⟩;rw[show off+k+i*k=off+(i+1)*k by rw[Nat.add_mul];omega];exact q3);refine⟨r::rows,by simp[g1],?_,?_⟩
  ·intro x hx;simp only[List.mem_cons]at hx;rcases hx with rfl|hx
   ·exact⟨h2,h1⟩
   ·exact g2 x hx
  ·simp only[VRows];exact⟨h2,by simpa using h3,g3⟩
theorem parts_of{I:Nat→Prop}{cs:List Value}{n:Nat}:∀(fs:List Field) (o:Nat) {m:Nat},tiled E o fs=some m→m≤cs.length→
 (∀f∈fs,∃avs,VRels I w noP avs ((cs.drop f.offset).take (E.sz f.type))∧Typ E n f.type avs)→
 o≤m∧∃parts:List (List AV),parts.length=fs.length∧(∀(i:Nat) f p,fs[i]?=some f→parts[i]?=some p→p.length=E.sz f.type∧Typ E n f.type p)∧VRels I w noP parts.flatten ((cs.drop o).take (m-o))
 | [],o,m,ht,hm,_=>by simp only[tiled,Option.some.injEq]at ht;subst ht;exact⟨Nat.le_refl _,[],rfl,by simp,by simp[VRels]⟩
 |f::r,o,m,ht,hm,h=>by
  simp only[tiled,cond_eq_ite]at ht;split at ht
  case isFalse=>cases ht
  rename_i hfo;have hfo:f.offset=o:=by simpa using hfo
  obtain⟨hle,parts,h1,h2,h3⟩:=parts_of r (o+E.sz f.type) ht hm (λg hg=>h g (by simp[hg]));obtain⟨avs,g1,g2⟩:=h f (by simp);rw[hfo]at g1;have hlen:avs.length=E.sz f.type:=by have:=VRels.length g1;rw[this];simp;omega
  refine⟨by omega,avs::parts,by simp[h1],?_,?_⟩
  ·intro i g p hg hp;cases i with
   |zero=>simp only[List.getElem?_cons_zero,Option.some.injEq]at hg hp;subst hg;subst hp;exact⟨hlen,g2⟩
   |succ i=>simp only[List.getElem?_cons_succ]at hg hp;exact h2 i g p hg hp
  ·simp only[List.flatten_cons];have:(cs.drop o).take (m-o)=(cs.drop o).take (E.sz f.type)++(cs.drop (o+E.sz f.type)).take (m-(o+E.sz f.type)):=by
    rw[show m-o=E.sz f.type+(m-(o+E.sz f.type)) by omega,List.take_add,List.drop_drop]
   rw[this];exact VRels.append g1 h3
theorem arr_of{I:Nat→Prop}{cs:List Value}{n k:Nat}{e:TypeId}:∀(m o:Nat),o+m*k≤cs.length→
 (∀i,i<m→∃avs,VRels I w noP avs ((cs.drop (o+i*k)).take k)∧Typ E n e avs)→
 ∃parts:List (List AV),parts.length=m∧(∀p∈parts,p.length=k∧Typ E n e p)∧VRels I w noP parts.flatten ((cs.drop o).take (m*k))
 |0,o,_,_=>⟨[],rfl,by simp,by simp[VRels]⟩
 |m+1,o,hl,h=>by
  have hmk:(m+1)*k=k+m*k:=by rw[Nat.add_mul];omega
  obtain⟨parts,h1,h2,h3⟩:=arr_of (cs:=cs) (k:=k) (e:=e) m (o+k) (by omega) (λi hi=>by obtain⟨avs,g1,g2⟩:=h (i+1) (by omega);refine⟨avs,?_,g2⟩;rw[show o+k+i*k=o+(i+1)*k by rw[Nat.add_mul];omega];exact g1);obtain⟨avs,g1,g2⟩:=h 0 (by omega);rw[Nat.zero_mul,Nat.add_zero]at g1;have hlen:avs.length=k:=by have:=VRels.length g1;rw[this];simp;omega
  refine⟨avs::parts,by simp[h1],?_,?_⟩
  ·intro p hp;simp only[List.mem_cons]at hp;rcases hp with rfl|hp
   ·exact⟨hlen,g2⟩
   ·exact h2 p hp
  ·simp only[List.flatten_cons];rw[hmk,List.take_add,List.drop_drop];exact VRels.append g1 h3
theorem mapM_all{α β:Type}{f:α→Option β}{l:List α}{r:List β}(h:l.mapM f=some r):∀x∈l,∃y,f x=some y:=by
 induction l generalizing r with
 |nil=>simp
 |cons a l ih=>
  rw[List.mapM_cons]at h;intro x hx;cases hfa:f a with
  |none=>simp[hfa]at h
  |some y=>
   simp only[hfa,Option.bind_eq_bind,Option.bind_some]at h;cases hl:l.mapM f with
   |none=>simp[hl]at h
   |some r'=>
    simp only[List.mem_cons]at hx;rcases hx with rfl|hx
    ·exact⟨y,hfa⟩
    ·exact ih hl x hx
theorem at_of_cells{I:Nat→Prop}{avs:List AV}{cs:List Value}{b off:Nat}(hc:∀i v,cs[i]?=some v→w.cell? ⟨b,off+i,none⟩=some v)(h:VRels I w noP avs cs):VAt I w noP avs b off:=VAt.of_cells (λi v hv=>hc i v hv) h
theorem read_ok(ok:EnvOk E):∀(n:Nat) (t:TypeId),readable E n t=true→∀(fuel:Nat) (cs:List Value) (x:DataW H×List MemPlace),DataW.trod enc E.P w base spare held fuel t cs=some x→
 ∃avs,VRels (Old w) w noP avs cs∧Typ E n t avs
 |0,t,hr=>by simp[readable]at hr
 |n+1,t,hr=>by
  intro fuel cs x h;cases fuel with
  |zero=>simp[DataW.trod]at h
  |succ fuel=>
  have ih:=read_ok ok n;unfold readable at hr;unfold DataW.trod at h;cases hu:E.und t with
  |none=>rw[hu]at hr;simp at hr
  |some d=>
   have hP:=(ok.und t d hu).1;have hsz:=cellsOf_sz ok hu;rw[hu]at hr;rw[hP]at h;cases d<;>simp only[Bool.false_eq_true]at hr
   case bool=>
    obtain⟨b,rfl⟩:∃b,cs=[.bool b]:=by split at h<;>simp_all
    exact⟨[.bool b],by simp[VRels,VRel],by simp[Typ,hu]⟩
   case int k=>
    obtain⟨i,rfl,hw⟩:∃i,cs=[.int k i]∧(Lit.int k i).wf=true:=by split at h<;>simp_all
    exact⟨[.int k i],by simp[VRels,VRel],by simp[Typ,hu,hw]⟩
   case string=>
    obtain⟨b,rfl,hw⟩:∃b:ByteArray,cs=[.string b]∧b.size≤maxLen:=by split at h<;>simp_all
    exact⟨[.str b.data.toList],by simp[VRels,VRel],by simp only[Typ,hu];exact⟨_,rfl,by simpa using hw⟩⟩
   case slice e=>
    simp only[Bool.and_eq_true,Nat.blt_eq]at hr;obtain⟨⟨hr1,hr2⟩,hr3⟩:=hr;obtain⟨de,hde⟩:=Option.isSome_iff_exists.1 hr1;have hsze:=cellsOf_sz ok hde;have hkey:cs=[.slice none 0 0]∨∃a len cap,cs=[.slice (some a) len cap]∧len≤cap∧cap≤maxLen∧
     ∃elems,((List.range len).mapM λi=>(w.cells? base (a.add (i*E.P.cellsOf e)) (E.P.cellsOf e)).bind (DataW.trod enc E.P w base spare held fuel e))=some elems:=by
     split at h
     all_goals first|(rename_i heq;cases heq;done)|(cases h;done)|skip
     ·left;rfl
     ·rename_i e' a len cap heq;cases heq;dsimp only at h;split at h
      case isFalse=>cases h
      rename_i hc;right;refine⟨a,len,cap,rfl,hc.2.1,hc.2.2,?_⟩;cases hm:((List.range len).mapM λi=>(w.cells? base (a.add (i*E.P.cellsOf e)) (E.P.cellsOf e)).bind (DataW.trod enc E.P w base spare held fuel e))with
      |none=>rw[hm]at h;simp at h
      |some elems=>exact⟨elems,rfl⟩
    rcases hkey with rfl|⟨a,len,cap,rfl,hlc,hcm,elems,hel⟩
    ·exact⟨[.nilslice],by simp[VRels,VRel],by simp only[Typ,hu];exact .inl trivial⟩
    ·have hrow:∀i,i<len→∃r,Typ E n e r∧r.length=E.sz e∧VAt (Old w) w noP r a.block (a.off+i*E.sz e)∧a.spot=none∧a.block<w.heap.size:=by
      have hat:∀i,i<len→∃cs' y,cs'.length=E.sz e∧(∀j,j<E.sz e→w.cell? ((a.add (i*E.sz e)).add j)=cs'[j]?)∧DataW.trod enc E.P w base spare held fuel e cs'=some y:=by
       intro i hi;obtain⟨y,hy⟩:=mapM_all hel i (by simpa using hi);rw[hsze]at hy;cases hc:w.cells? base (a.add (i*E.sz e)) (E.sz e)with
       |none=>rw[hc]at hy;simp at hy
       |some cs'=>rw[hc]at hy;obtain⟨_,h2,h3⟩:=World.cells?_some hc;exact⟨cs',y,h2,h3,by simpa using hy⟩
      intro i hi;have hspot:a.spot=none∧a.block<w.heap.size:=by
       obtain⟨cs0,y0,h1,h2,_⟩:=hat 0 (by omega);have h3:=h2 0 hr2;rw[Nat.zero_mul,show(a.add 0).add 0=a from by simp[Addr.add],List.getElem?_eq_getElem (by omega)]at h3;unfold World.cell? at h3;split at h3
       ·rename_i hb;refine⟨?_,(Array.getElem?_eq_some_iff.1 hb).1⟩;cases hs:a.spot with
        |none=>rfl
        |some _=>rw[hs]at h3;simp at h3
       ·cases h3
      obtain⟨cs',y,h1,h2,h3⟩:=hat i hi;obtain⟨r,q1,q2⟩:=ih e hr3 fuel cs' y h3;refine⟨r,q2,by rw[VRels.length q1,h1],at_of_cells ?_ q1,hspot⟩;intro j v hv;have hj:j<E.sz e:=by rw[←h1];exact(List.getElem?_eq_some_iff.1 hv).1
      have:=h2 j hj;rw[hv]at this;rw[←this]
      congr 1
      obtain⟨ab,ao,as⟩:=a;obtain⟨rfl,_⟩:=hspot;unfold Addr.add;split<;>split<;>simp_all
     obtain⟨rows,g1,g2,g3⟩:=rows_of (Pr:=Typ E n e) len a.off (λi hi=>by obtain⟨r,q1,q2,q3,_⟩:=hrow i hi;exact⟨r,q1,q2,q3⟩);refine⟨[.islice rows (some cap)],?_,by simp only[Typ,hu];exact .inr ⟨rows,cap,rfl,by omega,hcm,g2⟩⟩;simp only[VRels];refine⟨_,[],rfl,?_,rfl⟩;simp only[VRel];refine⟨a,cap,E.sz e,by rw[g1],by omega,by simp,?_⟩;cases len with
     |zero=>exact .inl (List.length_eq_zero_iff.1 g1)
     |succ len=>obtain⟨_,_,_,_,q4,q5⟩:=hrow 0 (by omega);exact .inr ⟨q4,q5,g3⟩
   case struct fs=>
    simp only[Bool.and_eq_true,List.all_eq_true]at hr;obtain⟨hr1,hr2⟩:=hr;split at hr1
    case h_2=>cases hr1
    rename_i m hm;have hmt:m=E.sz t:=by simpa using hr1
    have hkey:cs.length=E.P.cellsOf t∧∃xs,(fs.toList.mapM λf=>DataW.trod enc E.P w base spare held fuel f.type ((cs.drop f.offset).take (E.P.cellsOf f.type)))=some xs:=by
     dsimp only at h;split at h
     ·rename_i hl;obtain⟨xs,hxs,_⟩:=map_some_inv h;exact⟨hl,xs,hxs⟩
     ·cases h
    obtain⟨hlen,xs,hxs⟩:=hkey;obtain⟨_,parts,h1,h2,h3⟩:=parts_of (E:=E) (I:=Old w) (w:=w) (cs:=cs) (n:=n) fs.toList 0 hm (by omega) (λf hf=>by obtain⟨y,hy⟩:=mapM_all hxs f hf;have h2:=hr2 f hf;obtain⟨df,hdf⟩:=Option.isSome_iff_exists.1 h2.1;rw[cellsOf_sz ok hdf]at hy;exact ih f.type h2.2 fuel _ _ hy);refine⟨parts.flatten,?_,by simp only[Typ,hu];exact⟨parts,rfl,h1,h2⟩⟩;rw[List.drop_zero,Nat.sub_zero,List.take_of_length_le (by omega)]at h3;exact h3
   case array m e=>
    simp only[Bool.and_eq_true]at hr;obtain⟨⟨hr1,hr2⟩,hr3⟩:=hr;obtain⟨de,hde⟩:=Option.isSome_iff_exists.1 hr1;have hsze:=cellsOf_sz ok hde;have hmk:m*E.sz e=E.sz t:=by simpa using hr2
    have hkey:cs.length=E.P.cellsOf t∧∃xs,((List.range m).mapM λi=>DataW.trod enc E.P w base spare held fuel e ((cs.drop (i*E.P.cellsOf e)).take (E.P.cellsOf e)))=some xs:=by
     dsimp only at h;split at h
     ·rename_i hl;obtain⟨xs,hxs,_⟩:=map_some_inv h;exact⟨hl,xs,hxs⟩
     ·cases h
    obtain⟨hlen,xs,hxs⟩:=hkey;obtain⟨parts,h1,h2,h3⟩:=arr_of (E:=E) (I:=Old w) (w:=w) (cs:=cs) (n:=n) (k:=E.sz e) (e:=e) m 0 (by omega) (λi hi=>by obtain⟨y,hy⟩:=mapM_all hxs i (by simpa using hi);rw[hsze]at hy;rw[Nat.zero_add];exact ih e hr3 fuel _ _ hy);refine⟨parts.flatten,?_,by simp only[Typ,hu];exact⟨parts,rfl,h1,h2⟩⟩;rw[List.drop_zero,List.take_of_length_le (by omega)]at h3;exact h3
end
end Go.Ax
/- AxArgs: a row's arguments as abstract values. -/
namespace Go.Ax
def TypA(E:Env)(n:Nat)(t:TypeId)(av:AV):Prop:=
 match E.und t with
 |some d=>bif aggDesc d then ∃avs,av = .agg avs∧Typ E n t avs else Typ E n t [av]
 |none=>False
def TypAs(E:Env)(n:Nat):List TypeId→List AV→Prop
 | [],avs=>avs=[]
 |t::ts,avs=>∃a r,avs=a::r∧TypA E n t a∧TypAs E n ts r
section
variable {E:Env}{w:World}{H:Type}{enc:TypeId×Value→H}{spare:Nat→Bool}{held:Bool}{b0:Nat}
theorem arg_ok(ok:EnvOk E){n:Nat}{t:TypeId}{v:Value}{d:DataW H}{ps:List MemPlace}(hr:readable E n t=true)(hv:Value.okWide E.P w .any b0 t v)(h:DataW.Trod enc E.P w 0 spare held t v d ps) :
 ∃a,VRel (Old w) w noP a v∧TypA E n t a:=by
 obtain⟨fuel,hf⟩:=h;obtain⟨avs,h1,h2⟩:=read_ok ok n t hr fuel _ _ hf;cases hu:E.und t with
 |none=>cases n<;>simp[readable,hu]at hr
 |some dd=>
  have hP:=(ok.und t dd hu).1;unfold Value.okWide at hv;rw[hP]at hv;cases hag:aggDesc dd with
  |true=>
   have hv:∃cs,v = .agg cs∧cs.size=E.P.cellsOf t∧Row.okWide E.P w .any b0 t cs:=by cases dd<;>simp[aggDesc]at hag<;>exact hv
   obtain⟨cs,rfl,_,_⟩:=hv;exact⟨.agg avs,by simp only[VRel];exact⟨cs,rfl,h1⟩,by simp only[TypA,hu,hag,cond_true];exact⟨avs,rfl,h2⟩⟩
  |false=>
   have hcell:v.cells = #[v]:=by
    cases v with
    |agg cs=>exfalso;cases dd<;>simp[aggDesc]at hag<;>simp[Cell.okWide,Cell.ok,hP]at hv
    |_=>rfl
   rw[hcell]at h1;have h3:=h1;obtain⟨a,rfl⟩:∃a,avs=[a]:=by
    have:=VRels.length h1
    match avs,this with
    | [a],_=>exact⟨a,rfl⟩
   simp only[VRels]at h3;obtain⟨c,_,hc,h4,rfl⟩:=h3;simp only[List.cons.injEq,and_true]at hc;subst hc;exact⟨a,h4,by simp only[TypA,hu,hag,cond_false];exact h2⟩
theorem args_ok(ok:EnvOk E){n:Nat}:∀(ts:List TypeId) (vs:List Value) (ds:List (DataW H)) (ps:List MemPlace),DataW.TrodAll enc E.P w 0 spare held ts vs ds ps→
 (∀(j:Nat) t v,ts[j]?=some t→vs[j]?=some v→Value.okWide E.P w .any b0 t v)→(ts.all (readable E n))=true→∃args,VRels (Old w) w noP args vs∧TypAs E n ts args
 | [],vs,ds,ps,h,_,_=>by
  cases vs with
  |nil=>exact⟨[],by simp[VRels],rfl⟩
  |cons v vs=>cases ds<;>simp[DataW.TrodAll]at h
 |t::ts,vs,ds,ps,h,hv,hr=>by
  cases vs with
  |nil=>cases ds<;>simp[DataW.TrodAll]at h
  |cons v vs=>
   cases ds with
   |nil=>simp[DataW.TrodAll]at h
   |cons d ds=>simp only[DataW.TrodAll]at h;obtain⟨p,q,h1,h2,_⟩:=h;simp only[List.all_cons,Bool.and_eq_true]at hr;obtain⟨a,g1,g2⟩:=arg_ok ok hr.1 (hv 0 t v rfl rfl) h1;obtain⟨r,g3,g4⟩:=args_ok ok ts vs ds q h2 (λj t v ht hv'=>hv (j+1) t v (by simpa using ht) (by simpa using hv')) hr.2;exact⟨a::r,by simp only[VRels];exact⟨v,vs,rfl,g1,g3⟩,⟨a,r,rfl,g2,g4⟩⟩
end
end Go.Ax
/- AxLaid: what a listed package-level variable reads as, as abstract cells. -/
namespace Go.Ax
def flatFs(E:Env)(f:TypeId→DataW Unit→Option (List AV)):Nat→List Field→List (DataW Unit)→Option (List AV)
 |_,[],[]=>some []
 |o,x::fs,d::ds=>bif Nat.beq x.offset o&&(E.und x.type).isSome then
  match f x.type d,flatFs E f (o+E.sz x.type) fs ds with
  |some a,some b=>bif Nat.beq a.length (E.sz x.type)then some (a++b)else none
  |_,_=>none
  else none
 |_,_,_=>none
def flatRs(k:Nat)(f:DataW Unit→Option (List AV)):List (DataW Unit)→Option (List (List AV))
 | []=>some []
 |d::ds=>match f d,flatRs k f ds with
  |some a,some b=>bif Nat.beq a.length k then some (a::b)else none
  |_,_=>none
def flatT(E:Env):Nat→TypeId→DataW Unit→Option (List AV)
 |0,_,_=>none
 |n+1,t,d=>match E.und t,d with
  |some .bool,.lit (.bool b)=>some [.bool b]
  |some (.int k),.lit (.int k' i)=>bif k==k' then some [.int k i]else none
  |some .string,.lit (.string s)=>some [.str s]
  |some (.struct fs),.agg ds=>match flatFs E (flatT E n) 0 fs.toList ds with
   |some avs=>bif Nat.beq avs.length (E.sz t)then some avs else none
   |none=>none
  |some (.array m e),.agg ds=>bif (E.und e).isSome&&Nat.beq (m*E.sz e) (E.sz t)&&Nat.beq ds.length m then(flatRs (E.sz e) (flatT E n e) ds).map List.flatten else none
  |some (.slice _),.nil=>some [.nilslice]
  |some (.slice e),.slice es spare=>bif (E.und e).isSome&&Nat.blt 0 (E.sz e)&&Nat.blt 0 es.length then(flatRs (E.sz e) (flatT E n e) es).map λrows=>[.islice rows (some (es.length+spare.length))]else none
  |_,_=>none
section
variable {E:Env}{w:World}{enc:TypeId×Value→Unit}{base:Nat}{held:Bool}
theorem mapM_cons_inv{α β:Type}{f:α→Option β}{a:α}{l:List α}{r:List β}(h:(a::l).mapM f=some r):∃b r',f a=some b∧l.mapM f=some r'∧r=b::r':=by
 rw[List.mapM_cons]at h;cases hfa:f a with
 |none=>simp[hfa]at h
 |some y=>
  simp only[hfa,Option.bind_eq_bind,Option.bind_some]at h;cases hl:l.mapM f with
  |none=>simp[hl]at h
  |some r'=>simp only[hl,Option.bind_some]at h;cases h;exact⟨y,r',rfl,rfl,rfl⟩
theorem mapM_len{α β:Type}{f:α→Option β}:∀{l:List α} {r:List β},l.mapM f=some r→r.length=l.length
 | [],r,h=>by cases h;rfl
 |a::l,r,h=>by obtain⟨b,r',_,h2,rfl⟩:=mapM_cons_inv h;simp[mapM_len h2]
theorem mapM_get{α β:Type}{f:α→Option β}:∀{l:List α} {r:List β},l.mapM f=some r→∀(i:Nat) a,l[i]?=some a→∃b,f a=some b∧r[i]?=some b
 | [],r,h,i,a,ha=>by simp at ha
 |x::l,r,h,i,a,ha=>by
  obtain⟨b,r',h1,h2,rfl⟩:=mapM_cons_inv h;cases i with
  |zero=>simp only[List.getElem?_cons_zero,Option.some.injEq]at ha;subst ha;exact⟨b,h1,rfl⟩
  |succ i=>simp only[List.getElem?_cons_succ]at ha⊢;exact mapM_get h2 i a ha
theorem flatRs_len{k:Nat}{f:DataW Unit→Option (List AV)}:∀{ds:List (DataW Unit)} {rows:List (List AV)},flatRs k f ds=some rows→rows.length=ds.length
 | [],rows,h=>by cases h;rfl
 |d::ds,rows,h=>by
  simp only[flatRs]at h;split at h
  case h_2=>cases h
  rename_i a b ha hb;rw[cond_eq_ite]at h;split at h
  ·cases h;simp[flatRs_len hb]
  ·cases h
theorem flatRs_get{k:Nat}{f:DataW Unit→Option (List AV)}:∀{ds:List (DataW Unit)} {rows:List (List AV)},flatRs k f ds=some rows→∀(i:Nat) d,ds[i]?=some d→∃a,f d=some a∧a.length=k∧rows[i]?=some a
 | [],rows,h,i,d,hd=>by simp at hd
 |x::ds,rows,h,i,d,hd=>by
  simp only[flatRs]at h;split at h
  case h_2=>cases h
  rename_i a b ha hb;rw[cond_eq_ite]at h;split at h
  case isFalse=>cases h
  rename_i hk;cases h;cases i with
  |zero=>simp only[List.getElem?_cons_zero,Option.some.injEq]at hd;subst hd;exact⟨a,ha,by simpa using hk,rfl⟩
  |succ i=>simp only[List.getElem?_cons_succ]at hd⊢;exact flatRs_get hb i d hd
theorem fields_laid{I:Nat→Prop}{cs:List Value}{f:TypeId→DataW Unit→Option (List AV)}{g:Field→Option (DataW Unit×List MemPlace)}
 (hg:∀x y avs,g x=some y→f x.type y.1=some avs→VRels I w noP avs ((cs.drop x.offset).take (E.sz x.type))) :
 ∀(fs:List Field) (o:Nat) {xs:List (DataW Unit×List MemPlace)} {avs:List AV},fs.mapM g=some xs→flatFs E f o fs (xs.map (·.1))=some avs→VRels I w noP avs ((cs.drop o).take avs.length)
 | [],o,xs,avs,hm,hf=>by cases hm;cases hf;simp[VRels]
 |x::fs,o,xs,avs,hm,hf=>by
  obtain⟨y,ys,h1,h2,rfl⟩:=mapM_cons_inv hm;simp only[List.map_cons,flatFs]at hf;rw[cond_eq_ite]at hf;split at hf
  case isFalse=>cases hf
  rename_i hc;simp only[Bool.and_eq_true,Nat.beq_eq]at hc;split at hf
  case h_2=>cases hf
  rename_i a b ha hb;rw[cond_eq_ite]at hf;split at hf
  case isFalse=>cases hf
  rename_i hl;rw[Nat.beq_eq]at hl;cases hf;have ih:=fields_laid hg fs _ h2 hb;have h3:=hg x y a h1 ha;rw[hc.1,←hl]at h3;rw[List.length_append,List.take_add,List.drop_drop,hl]at *;exact VRels.append h3 ih
theorem rows_laid{I:Nat→Prop}{cs:List Value}{k:Nat}:∀(rows:List (List AV)) (o:Nat),(∀(i:Nat) r,rows[i]?=some r→r.length=k∧VRels I w noP r ((cs.drop (o+i*k)).take k))→
 VRels I w noP rows.flatten ((cs.drop o).take (rows.length*k))
 | [],o,_=>by simp[VRels]
 |r::rows,o,h=>by have h0:=h 0 r rfl;have ih:=rows_laid rows (o+k) (λi r hr=>by have:=h (i+1) r (by simpa using hr);rw[show o+k+i*k=o+(i+1)*k by rw[Nat.add_mul];omega];exact this);simp only[List.flatten_cons,List.length_cons];rw[show(rows.length+1)*k=k+rows.length*k by rw[Nat.add_mul];omega,List.take_add,List.drop_drop];refine VRels.append ?_ ih;simpa using h0.2
theorem laid_read(ok:EnvOk E):∀(n:Nat) (t:TypeId) (fuel:Nat) (cs:List Value) (x:DataW Unit×List MemPlace) (avs:List AV),DataW.trod enc E.P w base (λ_=>true) held fuel t cs=some x→flatT E n t x.1=some avs→
 VRels (Old w) w noP avs cs
 |0,t,fuel,cs,x,avs,_,hf=>by simp[flatT]at hf
 |n+1,t,0,cs,x,avs,h,hf=>by simp[DataW.trod]at h
 |n+1,t,fuel+1,cs,x,avs,h,hf=>by
  have ih:=laid_read ok n;unfold flatT at hf;unfold DataW.trod at h;cases hu:E.und t with
  |none=>rw[hu]at hf;simp at hf
  |some dd=>
   have hP:=(ok.und t dd hu).1;have hszt:=cellsOf_sz ok hu;rw[hu]at hf;rw[hP]at h;cases dd
   case bool=>
    obtain⟨b,rfl,rfl⟩:∃b,cs=[.bool b]∧x=(.lit (.bool b),[]):=by split at h<;>simp_all
    simp only[Option.some.injEq]at hf;subst hf;simp[VRels,VRel]
   case int k=>
    obtain⟨b,rfl,rfl⟩:∃b,cs=[.int k b]∧x=(.lit (.int k b),[]):=by split at h<;>simp_all
    simp only[cond_eq_ite]at hf;split at hf
    ·cases hf;simp[VRels,VRel]
    ·cases hf
   case string=>
    obtain⟨b,rfl,rfl⟩:∃b:ByteArray,cs=[.string b]∧x=(.lit (.string b.data.toList),[]):=by split at h<;>simp_all
    simp only[Option.some.injEq]at hf;subst hf;simp[VRels,VRel]
   case struct fs=>
    dsimp only at h;split at h
    case isFalse=>cases h
    rename_i hl;obtain⟨xs,hxs,rfl⟩:=map_some_inv h;dsimp only at hf;split at hf
    case h_2=>cases hf
    rename_i avs' hff;rw[cond_eq_ite]at hf;split at hf
    case isFalse=>cases hf
    rename_i hl2;rw[Nat.beq_eq]at hl2;cases hf;have key:=fields_laid (E:=E) (I:=Old w) (w:=w) (cs:=cs) (f:=flatT E n)
     (g:=λf=>DataW.trod enc E.P w base (λ_=>true) held fuel f.type ((cs.drop f.offset).take (E.P.cellsOf f.type))) ?_ fs.toList 0 hxs hff
    ·rw[List.drop_zero,List.take_of_length_le (by omega)]at key;exact key
    ·intro x y avs hy hfa;have hund:∃dx,E.und x.type=some dx:=by
      cases n with
      |zero=>simp[flatT]at hfa
      |succ n=>unfold flatT at hfa;cases hux:E.und x.type with
       |none=>rw[hux]at hfa;simp at hfa
       |some dx=>exact⟨dx,rfl⟩
     obtain⟨dx,hdx⟩:=hund;rw[cellsOf_sz ok hdx]at hy;exact ih x.type fuel _ y avs hy hfa
   case array m e=>
    dsimp only at h;split at h
    case isFalse=>cases h
    rename_i hl;obtain⟨xs,hxs,rfl⟩:=map_some_inv h;dsimp only at hf;rw[cond_eq_ite]at hf;split at hf
    case isFalse=>cases hf
    rename_i hc;simp only[Bool.and_eq_true,Nat.beq_eq]at hc;obtain⟨rows,hrows,rfl⟩:=map_some_inv hf;obtain⟨de,hde⟩:=Option.isSome_iff_exists.1 hc.1.1;have hsze:=cellsOf_sz ok hde;have hlen:rows.length=m:=by rw[flatRs_len hrows];simpa using hc.2
    have key:=rows_laid (I:=Old w) (w:=w) (cs:=cs) (k:=E.sz e) rows 0 (λi r hr=>by
     have hi:i<m:=by rw[←hlen];exact(List.getElem?_eq_some_iff.1 hr).1
     obtain⟨y,hy,hyi⟩:=mapM_get hxs i i (by simp[hi]);obtain⟨a,ha,hal,hai⟩:=flatRs_get hrows i y.1 (by simp[hyi]);rw[hr]at hai;cases hai;refine⟨hal,?_⟩;rw[Nat.zero_add];rw[hsze]at hy;exact ih e fuel _ y r hy ha)
    rw[List.drop_zero,List.take_of_length_le (by rw[hlen];omega)]at key;exact key
   case slice e=>
    split at h
    all_goals first|(rename_i heq;cases heq;done)|(cases h;done)|skip
    ·cases h;simp only[Option.some.injEq]at hf;subst hf;simp[VRels,VRel]
    ·rename_i e' a len cap heq;cases heq;dsimp only at h;split at h
     case isFalse=>cases h
     rename_i hc;cases hm:((List.range len).mapM λi=>(w.cells? base (a.add (i*E.P.cellsOf e)) (E.P.cellsOf e)).bind (DataW.trod enc E.P w base (λ_=>true) held fuel e))with
     |none=>rw[hm]at h;simp at h
     |some elems=>
      rw[hm]at h;simp only[Option.bind_some,if_true]at h;obtain⟨rest,hrest,rfl⟩:=map_some_inv h;dsimp only at hf;rw[cond_eq_ite]at hf;split at hf
      case isFalse=>cases hf
      rename_i hc2;simp only[Bool.and_eq_true,Nat.blt_eq,List.length_map]at hc2;obtain⟨rows,hrows,rfl⟩:=map_some_inv hf;obtain⟨de,hde⟩:=Option.isSome_iff_exists.1 hc2.1.1;have hsze:=cellsOf_sz ok hde;have hlr:rows.length=elems.length:=by rw[flatRs_len hrows];simp
      have hle:elems.length=len:=by rw[mapM_len hm];simp
      have hlrest:rest.length=cap-len:=by rw[mapM_len hrest];simp
      have hat:∀i,i<len→∃cs' y,elems[i]?=some y∧cs'.length=E.sz e∧(∀j,j<E.sz e→w.cell? ((a.add (i*E.sz e)).add j)=cs'[j]?)∧DataW.trod enc E.P w base (λ_=>true) held fuel e cs'=some y:=by
       intro i hi;obtain⟨y,hy,hyi⟩:=mapM_get hm i i (by simp[hi]);rw[hsze]at hy;cases hcs:w.cells? base (a.add (i*E.sz e)) (E.sz e)with
       |none=>rw[hcs]at hy;simp at hy
       |some cs'=>rw[hcs]at hy;obtain⟨_,h2,h3⟩:=World.cells?_some hcs;exact⟨cs',y,hyi,h2,h3,by simpa using hy⟩
      have hspot:a.spot=none∧a.block<w.heap.size:=by
       obtain⟨cs0,y0,_,h1,h2,_⟩:=hat 0 (by omega);have h3:=h2 0 hc2.1.2;rw[Nat.zero_mul,show(a.add 0).add 0=a from by simp[Addr.add],List.getElem?_eq_getElem (by omega)]at h3;unfold World.cell? at h3;split at h3
       ·rename_i hb;refine⟨?_,(Array.getElem?_eq_some_iff.1 hb).1⟩;cases hs:a.spot with
        |none=>rfl
        |some _=>rw[hs]at h3;simp at h3
       ·cases h3
      simp only[VRels];refine⟨_,[],rfl,?_,rfl⟩;simp only[VRel];refine⟨a,cap,E.sz e,by rw[hlr,hle],by omega,λn hn=>by cases hn;simp;omega,.inr ⟨hspot.1,hspot.2,?_⟩⟩;have key:∀(rows':List (List AV)) (o:Nat),(∀(i:Nat) r,rows'[i]?=some r→r.length=E.sz e∧VAt (Old w) w noP r a.block (a.off+(o+i)*E.sz e))→VRows (Old w) w (E.sz e) noP rows' a.block (a.off+o*E.sz e):=by
       intro rows'
       induction rows' with
       |nil=>intro o _;simp[VRows]
       |cons r rs ihr=>intro o hh;have h0:=hh 0 r rfl;simp only[VRows];refine⟨h0.1,by simpa using h0.2,?_⟩;rw[show a.off+o*E.sz e+E.sz e=a.off+(o+1)*E.sz e by rw[Nat.add_mul];omega];refine ihr (o+1) (λi r hr=>?_);have:=hh (i+1) r (by simpa using hr);rw[show o+1+i=o+(i+1) by omega];exact this
      have:=key rows 0 (λi r hr=>by
       have hi:i<len:=by rw[←hle,←hlr];exact(List.getElem?_eq_some_iff.1 hr).1
       obtain⟨cs',y,h0,h1,h2,h3⟩:=hat i hi;obtain⟨av,ha,hal,hai⟩:=flatRs_get hrows i y.1 (by simp[h0]);rw[hr]at hai;cases hai;refine⟨hal,?_⟩;rw[Nat.zero_add];refine at_of_cells ?_ (ih e fuel _ y r h3 ha);intro j v hv;have hj:j<E.sz e:=by rw[←h1];exact(List.getElem?_eq_some_iff.1 hv).1
       have:=h2 j hj;rw[hv]at this;rw[←this]
       congr 1
       obtain⟨ab,ao,as⟩:=a;obtain⟨rfl,_⟩:=hspot;unfold Addr.add;split<;>split<;>simp_all)
      simpa using this
   all_goals (simp only at hf;first|(cases hf;done)|(split at hf<;>cases hf))
theorem holds_of_laid(ok:EnvOk E){laid:List (String×DataW Unit)}(h:laidMet E.P laid w)
 (hG:∀g cs,E.G g=some cs→∃x∈laid,E.P.globalNamed x.1=some g∧∃t,(E.P.globals[g]?).map (·.type)=some t∧flatT E 8 t x.2=some cs):Holds E w:=by
 obtain⟨ps,hv,hnd,hcell⟩:=h;have hall:∀(l:List (String×DataW Unit)) ps,DataW.LaidVars E.P w l ps→∀x∈l,∃g t cs fuel p,E.P.globalNamed x.1=some g∧(E.P.globals[g]?).map (·.type)=some t∧w.var? E.P x.1=some cs∧DataW.trod (λ_=>()) E.P w 0 (λ_=>true) false fuel t cs.toList=some (x.2,p):=by
  intro l
  induction l with
  |nil=>intro ps _ x hx;simp at hx
  |cons y r ih=>
   intro ps hv x hx;obtain⟨n,d⟩:=y;simp only[DataW.LaidVars]at hv;obtain⟨g,t,cs,fuel,p,q,h1,h2,h3,h4,h5,_⟩:=hv;simp only[List.mem_cons]at hx;rcases hx with rfl|hx
   ·exact⟨g,t,cs,fuel,p,h1,h2,h3,h4⟩
   ·exact ih q h5 x hx
 intro g cs hg;obtain⟨x,hx,h1,t,h2,h3⟩:=hG g cs hg;obtain⟨g',t',cs',fuel,p,k1,k2,k3,k4⟩:=hall laid ps hv x hx;obtain rfl:g'=g:=Option.some.inj (k1.symm.trans h1);obtain rfl:t'=t:=Option.some.inj (k2.symm.trans h2);have hr:=laid_read ok 8 t' fuel _ (x.2,p) cs k4 h3;unfold World.var? at k3;rw[k1]at k3;simp only[Option.bind_some]at k3;split at k3
 case h_2=>cases k3
 rename_i cs2 e fz hheap;cases k3;refine⟨(Array.getElem?_eq_some_iff.1 hheap).1,?_,λ_=>?_⟩
 ·refine VAt.of_cells (cs:=cs'.toList) (CellsAt.of_heap hheap ?_) hr;intro j v hv;simpa using hv
 ·have hl:=VRels.length hr;rw[cell?_of_heap hheap,Array.getElem?_eq_none];simp at hl;omega
end
end Go.Ax
/- AxLaw: from a run of a law's body that answers true, for all typed arguments, to what a row asks. -/
namespace Go.Ax
open Go.ChangeShapes Go.WideShapes Go.RowKit
section
variable {E:Env}{H:Type}{enc:TypeId×Value→H}
theorem trodAll_stays{P:Program}(hl:laidOutB P=true){W W':World}(hb:Below W.heap.size W W'){sp:Nat→Bool}:∀(ts:List TypeId) (vs:List Value) (ds:List (DataW H)) (ps:List MemPlace),
 (ts.all λt=>P.readableRec t&&decide (t<P.types.size))=true→(∀p∈ps,p.block<W.heap.size)→(∀p∈ps,sp p.block=true)→
 DataW.TrodAll enc P W 0 (λ_=>true) true ts vs ds ps→DataW.TrodAll enc P W' 0 sp true ts vs ds ps
 | [],vs,ds,ps,_,_,_,h=>by cases vs<;>cases ds<;>simp only[DataW.TrodAll]at h⊢<;>exact h
 |t::ts,vs,ds,ps,hr,hlt,hs,h=>by
  cases vs with
  |nil=>simp[DataW.TrodAll]at h
  |cons v vs=>
   cases ds with
   |nil=>simp[DataW.TrodAll]at h
   |cons d ds=>simp only[DataW.TrodAll]at h⊢;obtain⟨p,q,h1,h2,rfl⟩:=h;simp only[List.all_cons,Bool.and_eq_true,decide_eq_true_eq]at hr;refine⟨p,q,?_,trodAll_stays hl hb ts vs ds q hr.2 (λx hx=>hlt x (by simp[hx])) (λx hx=>hs x (by simp[hx])) h2,rfl⟩;exact WideElems.Trod_stays hl hr.1.1 hr.1.2 h1 (λx hx=>hb.same (hlt x (by simp[hx]))) (λx hx=>hs x (by simp[hx]))
theorem law_post{P:Program}(hl:laidOutB P=true){f:Func}{s:ChangeSpec}(hvs:s.vars=[]){n:Nat}(hn:f.params.toList.length=n)
 (hs:∀ds:List (DataW H),ds.length=n→(s.fn H ds).results=[.lit (.bool true)]∧(s.fn H ds).args=ds∧(s.fn H ds).vars=[]){tb:TypeId}(hres:f.resultTypes = #[tb])(htb:P.underlying tb=some .bool)
 (hpar:(f.params.toList.all λt=>P.readableRec t&&decide (t<P.types.size))=true)
 {W W':World}{args:Array Value}{ds gs:List (DataW H)}{before:List MemPlace}(hW:DataW.Whole enc P f.params.toList s.vars false W args.toList ds gs before)(hb:Below W.heap.size W W') :
 s.post enc P f false true false false W args (.bool true) W':=by
 have hlt:∀p∈before,p.block<W.heap.size:=λp hp=>hW.lt p hp;have hold:∀p∈before,(λb=>decide (b<W.heap.size)) p.block=true:=λp hp=>by simpa using hlt p hp
 have hW0:=hW;obtain⟨p,q,hA,hV,rfl,hz,hnd⟩:=hW;rw[hvs]at hV;obtain⟨rfl,rfl⟩:=trodVars_none hV;have hlen:ds.length=n:=by
  have:∀(ts:List TypeId) (vs:List Value) (ds:List (DataW H)) (ps:List MemPlace),DataW.TrodAll enc P W 0 (λ_=>true) true ts vs ds ps→ds.length=ts.length:=by
   intro ts
   induction ts with
   |nil=>intro vs ds ps h;cases vs<;>cases ds<;>simp[DataW.TrodAll]at h<;>rfl
   |cons t ts ih=>
    intro vs ds ps h;cases vs with
    |nil=>simp[DataW.TrodAll]at h
    |cons v vs=>cases ds with
     |nil=>simp[DataW.TrodAll]at h
     |cons d ds=>simp only[DataW.TrodAll]at h;obtain⟨p,q,_,h2,_⟩:=h;simp[ih vs ds q h2]
  rw[this _ _ _ _ hA,hn]
 obtain⟨s1,s2,s3⟩:=hs (ds++[]) (by simpa using hlen);rw[List.append_nil]at hlt hold;have hargs:∀sp:Nat→Bool,(∀x∈p,sp x.block=true)→DataW.TrodAll enc P W' 0 sp true f.params.toList args.toList (s.fn H (ds++[])).args p:=by intro sp hsp;rw[s2,List.append_nil];exact trodAll_stays hl hb _ _ _ _ hpar hlt hsp hA
 have hvars:∀sp:Nat→Bool,DataW.TrodVars enc P W' sp s.vars (s.fn H (ds++[])).vars []:=by intro sp;rw[s3,hvs];rfl
 have hr1:∀(b:Nat) (sp:Nat→Bool) (hd:Bool),DataW.TrodAll enc P W' b sp hd f.resultTypes.toList ((Value.bool true).resultList f.resultTypes.size) (s.fn H (ds++[])).results []:=by intro b sp hd;rw[s1,hres];exact⟨[],[],⟨1,by simp[DataW.trod,htb,Value.cells]⟩,rfl,rfl⟩
 refine⟨ds,[],p++[],[],p,[],hW0,hr1 _ _ _,hargs _ hold,hvars _,World.keptBut_mono (λx hx=>⟨hx,?_⟩) (hb.frame (·∈p++[])),λ_=>?_⟩
 ·simpa using hx
 ·refine⟨?_,_,_,([]++p)++[],⟨[]++p,[],trodAll_append (hargs _ (λ_ _=>rfl)) (hr1 _ _ _),hvars _,rfl,?_,?_⟩,?_⟩
  ·intro j t r hj hv;rw[hres]at hj hv
   match j,hj,hv with
   |0,hj,hv=>simp[Value.resultList]at hj hv;subst hj;subst hv;exact okWide_bool_mk htb true
  ·intro b off hp;have hin:MemPlace.cell b off∈p:=by simpa using hp
   rw[hb.frozen (hlt _ hin)];exact hz b off (by simpa using hin)
  ·intro ha;cases ha
  ·intro x hx _;simpa using hx
theorem law_contract(ok:EnvOk E)(hl:laidOutB E.P=true){f:FuncId}{fn:Func}{run:List AV→Heap→Option (AV×Heap)}(hfy:f≠yId)(hf:FunOk E f run){m:Nat}
 (hread:(fn.params.toList.all (readable E m))=true)(hrun:∀args,TypAs E m fn.params.toList args→∃H',run args []=some (.bool true,H'))
 {s:ChangeSpec}(hvs:s.vars=[]){n:Nat}(hn:fn.params.toList.length=n)
 (hs:∀ds:List (DataW H),ds.length=n→(s.fn H ds).results=[.lit (.bool true)]∧(s.fn H ds).args=ds∧(s.fn H ds).vars=[]){tb:TypeId}(hres:fn.resultTypes = #[tb])(htb:E.P.underlying tb=some .bool)
 (hpar:(fn.params.toList.all λt=>E.P.readableRec t&&decide (t<E.P.types.size))=true)
 (W:World)(base:Nat)(args:Array Value)(ds gs:List (DataW H))(before:List MemPlace)
 (hval:∀(j:Nat) t v,fn.params[j]?=some t→args[j]?=some v→Value.okWide E.P W .any base t v)
 (hW:DataW.Whole enc E.P fn.params.toList s.vars false W args.toList ds gs before)(hG:Holds E W) :
 Calls E.P f args W λe W'=>∃v,e = .returned v∧s.post enc E.P fn false true false false W args v W':=by
 have hA:=hW;obtain⟨p,q,hA,_⟩:=hA;obtain⟨avs,h1,h2⟩:=args_ok (b0:=base) ok (n:=m) fn.params.toList args.toList ds p hA (λj t v ht hv=>hval j t v (by simpa using ht) (by simpa using hv)) hread;obtain⟨H',hr⟩:=hrun avs h2;have:=top_true hfy hf hr hG h1;rw[Array.toArray_toList]at this;refine this.mono ?_
 rintro e W' ⟨rfl,hb⟩
 exact⟨_,rfl,law_post hl hvs hn hs hres htb hpar hW hb⟩
end
end Go.Ax
/- AxSem: what a call comes to, without fuel for the calls: a function 'sem', closed under running a body over itself. No condition. -/
namespace Go.Ax
abbrev CallF:=FuncId→List AV→Heap→Option (AV×Heap)
def CallF.le(c c':CallF):Prop:=∀g a H r,c g a H=some r→c' g a H=some r
theorem callLoc_mono{r r':List AV→Heap→Option (AV×Heap)}(h:∀a H x,r a H=some x→r' a H=some x){args:List AV}{H:Heap}{x:AV×Heap×List Nat}
 (hc:callLoc r args H=some x):callLoc r' args H=some x:=by
 unfold callLoc at hc⊢;simp only at hc⊢;rw[cond_eq_ite]at hc⊢;split at hc
 case isFalse=>cases hc
 rename_i h1;rw[if_pos h1];split at hc
 case h_2=>cases hc
 rename_i v H1 hr;rw[h _ _ _ hr];exact hc
theorem lendLoc_mono{r r':List AV→Heap→Option (AV×Heap)}(h:∀a H x,r a H=some x→r' a H=some x){args:List AV}{H:Heap}{x:AV×Heap×List Nat}
 (hc:lendLoc r args H=some x):lendLoc r' args H=some x:=by
 unfold lendLoc at hc⊢;split at hc
 case h_2=>cases hc
 rename_i args' h1;split at hc
 case h_2=>cases hc
 rename_i v H1 hr;rw[h _ _ _ hr];exact hc
section
variable {E:Env}{draw:Bool}{N:Nat}{c c':CallF}(hc:CallF.le c c')
include hc
theorem callV_mono{f:AV}{args:List AV}{H:Heap}{x:AV×Heap×List Nat}(h:callV E draw c f args H=some x):callV E draw c' f args H=some x:=by
 unfold callV at h⊢;split at h
 case h_3=>cases h
 case h_2=>
  split at h
  case h_2=>cases h
  rename_i v H' σ hr;rw[callLoc_mono (λa H x=>hc yId a H x) hr];exact h
 rename_i g fs cs;rw[cond_eq_ite]at h⊢;split at h
 ·rename_i h1;rw[if_pos h1];rw[cond_eq_ite]at h⊢;split at h
  ·rename_i h2;rw[if_pos h2];exact lendLoc_mono (λa H x=>hc g a H x) h
  ·rename_i h2;rw[if_neg h2];exact h
 ·rename_i h1;rw[if_neg h1];rw[cond_eq_ite]at h⊢;split at h
  case isFalse=>cases h
  rename_i h2;rw[if_pos h2];split at h
  case h_2=>cases h
  rename_i v H' σ hr;rw[callLoc_mono (λa H x=>hc g a H x) hr];exact h
theorem stepOp_mono{F:Frm}{H:Heap}{op:Op}{x:AV×Heap×LogE}(h:stepOp E draw c F H op=some x):stepOp E draw c' F H op=some x:=by
 unfold stepOp at h⊢;split at h
 ·split at h
  case h_2=>cases h
  rename_i v H' σ hr;rw[callV_mono hc hr];exact h
 ·exact h
theorem runOps_mono{R:Type}{all:List Oper}{k k':Frm→Heap→Option R}(hk:∀F H r,k F H=some r→k' F H=some r):∀(ops:List Oper) (log:List LogE) (F:Frm) (H:Heap) {r:R},
 runOps E draw N c all ops log F H k=some r→runOps E draw N c' all ops log F H k'=some r:=by
 intro ops
 induction ops with
 |nil=>
  intro log F H r h;unfold runOps at h⊢;rw[cond_eq_ite]at h⊢;split at h
  case isFalse=>cases h
  rename_i h1;rw[if_pos h1];exact hk _ _ _ h
 |cons o rest ih=>
  have step:∀(log:List LogE) (F F':Frm) (H:Heap) (op:Op) (r:R),(match stepOp E draw c F H op with
   |some (v,H',l)=>runOps E draw N c all rest (l::log) (setF F' o.dst v) H' k
   |none=>none)=some r→(match stepOp E draw c' F H op with
   |some (v,H',l)=>runOps E draw N c' all rest (l::log) (setF F' o.dst v) H' k'
   |none=>none)=some r:=by
   intro log F F' H op r h;split at h
   case h_2=>cases h
   rename_i v H' l hs;rw[stepOp_mono hc hs];exact ih _ _ _ h
  intro log F H r h;unfold runOps at h⊢;rw[cond_eq_ite]at h⊢;split at h
  case isFalse=>cases h
  rename_i h1;rw[if_pos h1];split at h
  ·exact step _ _ _ _ _ _ h
  ·rename_i j want hg;split at h
   ·cases h
   ·rename_i d hd;split at h
    ·rename_i b hb;rw[cond_eq_ite]at h⊢;split at h
     ·rename_i hbt;rw[if_pos hbt];rw[cond_eq_ite]at h⊢;split at h
      ·rename_i hw;rw[if_pos hw];exact step _ _ _ _ _ _ h
      ·rename_i hw;rw[if_neg hw];exact ih _ _ _ h
     ·rename_i hbt;rw[if_neg hbt];rw[cond_eq_ite]at h⊢;split at h
      ·rename_i hw;rw[if_pos hw];exact ih _ _ _ h
      ·rename_i hw;rw[if_neg hw];exact step _ _ _ _ _ _ h
    ·exact ih _ _ _ h
    ·cases h
omit hc in
theorem loopN_mono{m0:Nat}{keep:List Nat}{R:Type}{b b':Frm→Heap→(AExit→Frm→Heap→Option R)→Option R}
 (hb:∀F H (k k':AExit→Frm→Heap→Option R),(∀e F H r,k e F H=some r→k' e F H=some r)→∀r,b F H k=some r→b' F H k'=some r):∀(n n':Nat),n≤n'→∀(F:Frm) (H:Heap) (k k':AExit→Frm→Heap→Option R),(∀e F H r,k e F H=some r→k' e F H=some r)→∀{r:R},
 loopN m0 keep b n F H k=some r→loopN m0 keep b' n' F H k'=some r
 |0,_,_,F,H,k,k',_,r,h=>by simp[loopN]at h
 |n+1,0,hn,F,H,k,k',_,r,h=>by omega
 |n+1,n'+1,hn,F,H,k,k',hk,r,h=>by
  unfold loopN at h⊢;simp only at h⊢;rw[cond_eq_ite]at h⊢;split at h
  case isFalse=>cases h
  rename_i h1;rw[if_pos h1];refine hb _ _ _ _ ?_ r h;intro e F H r h;cases e with
  |normal=>exact loopN_mono hb n n' (by omega) F H k k' hk h
  |exit id=>exact hk _ _ _ _ h
  |ret=>exact hk _ _ _ _ h
omit hc in
theorem roundM_mono{m0 it:Nat}{keep:List Nat}{ks acc:List Int}{b b':Frm→Heap→(AExit→Frm→Heap→Option R3)→Option R3}
 (hb:∀F H (k k':AExit→Frm→Heap→Option R3),(∀e F H r,k e F H=some r→k' e F H=some r)→∀r,b F H k=some r→b' F H k'=some r){a:Option Int}{F:Frm}{H:Heap}{x:R3}(h:roundM m0 it keep ks acc b a F H=some x):roundM m0 it keep ks acc b' a F H=some x:=by
 unfold roundM at h⊢;split at h
 case h_2=>cases h
 rename_i F1 H1 hg;split at h
 case h_2=>cases h
 rename_i H2 ha;exact hb _ _ _ _ (λ_ _ _ _ h=>h) _ h
omit hc in
theorem orderM_mono{m0 it:Nat}{keep:List Nat}{ks:List Int}{b b':Frm→Heap→(AExit→Frm→Heap→Option R3)→Option R3}
 (hb:∀F H (k k':AExit→Frm→Heap→Option R3),(∀e F H r,k e F H=some r→k' e F H=some r)→∀r,b F H k=some r→b' F H k'=some r):∀{o acc:List Int} {F:Frm} {H:Heap} {x:R3},orderM m0 it keep ks b acc o F H=some x→orderM m0 it keep ks b' acc o F H=some x
 | [],acc,F,H,x,h=>by
  unfold orderM at h⊢;split at h
  ·cases h
  ·rename_i e F' H' hne hr;rw[roundM_mono hb hr];cases e with
   |normal=>exact(hne rfl).elim
   |exit id=>exact h
   |ret=>exact h
  ·cases h
 |i::o,acc,F,H,x,h=>by
  unfold orderM at h⊢;split at h
  case h_2=>cases h
  rename_i F' H' hr;rw[roundM_mono hb hr];exact orderM_mono hb h
omit hc in
theorem mloop_mono{m0 it:Nat}{keep:List Nat}{R:Type}{b b':Frm→Heap→(AExit→Frm→Heap→Option R3)→Option R3}
 (hb:∀F H (k k':AExit→Frm→Heap→Option R3),(∀e F H r,k e F H=some r→k' e F H=some r)→∀r,b F H k=some r→b' F H k'=some r){F:Frm}{H:Heap}{k k':AExit→Frm→Heap→Option R}(hk:∀e F H r,k e F H=some r→k' e F H=some r){r:R}
 (h:mloop m0 it keep b F H k=some r):mloop m0 it keep b' F H k'=some r:=by
 unfold mloop at h⊢;split at h
 case h_2=>cases h
 rename_i ks hks;split at h
 case h_2=>cases h
 rename_i r0 rs hmap;rw[cond_eq_ite]at h;split at h
 case isFalse=>cases h
 rename_i hall;have hm:(permsZ ks).map (λo=>orderM m0 it keep ks b' [] o F H)=some r0::rs:=by
  rw[←hmap];refine List.map_congr_left λo ho=>?_;have hm:=List.mem_map_of_mem (f:=λo=>orderM m0 it keep ks b [] o F H) ho;rw[hmap]at hm;have he:orderM m0 it keep ks b [] o F H=some r0:=by
   rcases List.mem_cons.1 hm with h|h
   ·exact h
   ·exact same3_eq (List.all_eq_true.1 hall _ h)
  rw[he];exact orderM_mono hb he
 rw[hm];simp only[hall,cond_true];exact hk _ _ _ _ h
theorem aevC_mono{m0 lf lf':Nat}(hl:lf≤lf'){keep:Nat→List Nat}:∀(code:Code) {R:Type} (cur:Nat) (F:Frm) (H:Heap) (k k':AExit→Frm→Heap→Option R),(∀e F H r,k e F H=some r→k' e F H=some r)→∀{r:R},
 aevC E m0 N keep c lf cur code F H k=some r→aevC E m0 N keep c' lf' cur code F H k'=some r:=by
 intro code
 induction code with
 |skip=>intro R cur F H k k' hk r h;unfold aevC at h⊢;exact hk _ _ _ _ h
 |label l=>intro R cur F H k k' hk r h;unfold aevC at h⊢;exact hk _ _ _ _ h
 |exit id=>intro R cur F H k k' hk r h;unfold aevC at h⊢;exact hk _ _ _ _ h
 |ret=>intro R cur F H k k' hk r h;unfold aevC at h⊢;exact hk _ _ _ _ h
 |region id ops draw=>
  intro R cur F H k k' hk r h;unfold aevC at h⊢;cases hn:nxOf ops.toList with
  |none=>rw[hn]at h;exact runOps_mono hc (λF H r h=>hk _ _ _ _ h) _ _ _ _ h
  |some x=>
   obtain⟨it,nx,rest⟩:=x;rw[hn]at h;simp only[cond_eq_ite]at h⊢;split at h
   case isTrue=>cases h
   rename_i h1;rw[if_neg h1];split at h
   case h_2=>cases h
   rename_i v H' hx;exact runOps_mono hc (λF H r h=>hk _ _ _ _ h) _ _ _ _ h
 |seq x y ihx ihy=>
  intro R cur F H k k' hk r h;unfold aevC at h⊢;refine ihx _ _ _ _ _ ?_ h;intro e F H r h;cases e with
  |normal=>exact ihy _ _ _ _ _ hk h
  |exit id=>exact hk _ _ _ _ h
  |ret=>exact hk _ _ _ _ h
 |cond x y z ihy ihz=>
  intro R cur F H k k' hk r h;unfold aevC at h⊢;split at h
  case h_2=>cases h
  rename_i t ht;simp only[cond_eq_ite]at h⊢;split at h
  ·rename_i h1;rw[if_pos h1];exact ihy _ _ _ _ _ hk h
  ·rename_i h1;rw[if_neg h1];exact ihz _ _ _ _ _ hk h
 |block id b ih=>
  intro R cur F H k k' hk r h;unfold aevC at h⊢;refine ih _ _ _ _ _ ?_ h;intro e F H r h;cases e with
  |normal=>exact hk _ _ _ _ h
  |exit id'=>
   simp only[cond_eq_ite]at h⊢;split at h
   ·rename_i h1;rw[if_pos h1];exact hk _ _ _ _ h
   ·rename_i h1;rw[if_neg h1];exact hk _ _ _ _ h
  |ret=>exact hk _ _ _ _ h
 |loop b ih=>
  intro R cur F H k k' hk r h;unfold aevC at h⊢;cases hn:nxLoop b with
  |some it=>rw[hn]at h;exact mloop_mono (λF H k k' hk r h=>ih _ F H k k' hk h) hk h
  |none=>
  rw[hn]at h;dsimp only at h⊢;refine loopN_mono (λF H k k' hk r h=>ih _ F H k k' hk h) _ _ hl F H _ _ ?_ h;intro e F H r h;rw[cond_eq_ite]at h⊢;split at h
  ·rename_i h1;rw[if_pos h1];exact hk _ _ _ _ h
  ·rename_i h1;rw[if_neg h1];exact hk _ _ _ _ h
 |scope b ih=>intro R cur F H k k' hk r h;unfold aevC at h⊢;exact ih _ _ _ _ _ hk h
 |rangeFunc f ps as b=>
  intro R cur F H k k' hk r h;unfold aevC at h⊢;split at h
  case h_2=>cases h
  rename_i g fs cs y _ _;rw[cond_eq_ite]at h⊢;split at h
  case isFalse=>cases h
  rename_i h1;rw[if_pos h1];split at h
  case h_2=>cases h
  rename_i v H2 σ hr;rw[callLoc_mono (λa H x=>hc g a H x) hr];dsimp only;split at h
  ·exact hk _ _ _ _ h
  ·exact hk _ _ _ _ h
  ·exact hk _ _ _ _ h
  ·cases h
 |_=>intro R cur F H k k' hk r h;simp[aevC]at h
theorem runRound_mono{lf lf':Nat}(hl:lf≤lf'){args:List AV}{H:Heap}{r:AV×Heap}(h:runRound E c lf args H=some r):runRound E c' lf' args H=some r:=by
 unfold runRound at h⊢;split at h
 case h_2=>cases h
 rename_i b vs;split at h
 case h_2=>cases h
 rename_i y F hb;split at h
 case h_2=>cases h
 rename_i ri hri;rw[cond_eq_ite]at h⊢;split at h
 case isFalse=>cases h
 rename_i h1;rw[if_pos h1];refine aevC_mono hc hl _ _ _ _ _ _ ?_ h;intro e F H r h;cases e with
 |normal=>
  dsimp only at h⊢;split at h
  case h_2=>cases h
  rename_i H1 hy;exact aevC_mono hc hl _ _ _ _ _ _ (λ_ _ _ _ h=>h) h
 |exit id=>exact h
 |ret=>exact h
theorem aevZ_mono{m0 lf lf':Nat}(hl:lf≤lf'){keep:Nat→List Nat}:∀(code:Code) {R:Type} (cur:Nat) (F:Frm) (H:Heap) (k k':AExit→Frm→Heap→Option R),(∀e F H r,k e F H=some r→k' e F H=some r)→∀{r:R},
 aevZ E m0 N keep c lf cur code F H k=some r→aevZ E m0 N keep c' lf' cur code F H k'=some r:=by
 intro code
 induction code with
 |seq x y ihx ihy=>
  intro R cur F H k k' hk r h;unfold aevZ at h⊢;refine ihx _ _ _ _ _ ?_ h;intro e F H r h;cases e with
  |normal=>exact ihy _ _ _ _ _ hk h
  |exit id=>exact hk _ _ _ _ h
  |ret=>exact hk _ _ _ _ h
 |_=>intro R cur F H k k' hk r h;exact aevC_mono hc hl _ _ _ _ _ _ hk h
theorem aevY_mono{m0 lf lf' j:Nat}(hl:lf≤lf'){keep:Nat→List Nat}:∀(n:Nat) (code:Code) {R:Type} (cur:Nat) (F:Frm) (H:Heap) (k k':AExit→Frm→Heap→Option R),(∀e F H r,k e F H=some r→k' e F H=some r)→∀{r:R},
 aevY E m0 N keep c lf j n cur code F H k=some r→aevY E m0 N keep c' lf' j n cur code F H k'=some r:=by
 intro n
 induction n with
 |zero=>intro code R cur F H k k' hk r h;exact aevC_mono hc hl _ _ _ _ _ _ hk h
 |succ n ih=>
  intro code;cases code with
  |seq x y=>
   intro R cur F H k k' hk r h;refine aevC_mono hc hl x cur F H _ _ ?_ h;intro e F H r h;cases e with
   |normal=>exact ih _ _ _ _ _ _ hk h
   |exit id=>exact hk _ _ _ _ h
   |ret=>exact hk _ _ _ _ h
  |_=>intro R cur F H k k' hk r h;exact aevC_mono hc hl _ _ _ _ _ _ hk h
theorem runFn_mono{lf lf':Nat}(hl:lf≤lf'){g:FuncId}{args:List AV}{H:Heap}{r:AV×Heap}(h:runFn E c lf g args H=some r):runFn E c' lf' g args H=some r:=by
 unfold runFn at h⊢;split at h
 ·exact h
 split at h
 ·skip
  rw[cond_eq_ite]at h⊢;split at h
  case isFalse=>cases h
  rename_i h1;rw[if_pos h1];exact runRound_mono hc hl h
 rename_i i hi;rw[cond_eq_ite]at h⊢;split at h
 case isFalse=>cases h
 rename_i h1;rw[if_pos h1];unfold aevX at h⊢;cases hz:E.zf g with
 |true=>
  rw[hz,cond_true]at h;rw[cond_true];cases hzn:E.zn g with
  |zero=>rw[hzn]at h;exact aevZ_mono hc hl _ _ _ _ _ _ (λ_ _ _ _ h=>h) h
  |succ n=>rw[hzn]at h;exact aevY_mono hc hl _ _ _ _ _ _ _ (λ_ _ _ _ h=>h) h
 |false=>rw[hz,cond_false]at h;rw[cond_false];exact aevC_mono hc hl _ _ _ _ _ _ (λ_ _ _ _ h=>h) h
end
inductive Der(E:Env)(M:List Fact):FuncId→List AV→Heap→AV×Heap→Prop
 |run (g:FuncId) (args:List AV) (H:Heap) (r:AV×Heap) (c:CallF) (lf:Nat) (hc:∀g a H r,c g a H=some r→Der E M g a H r)
  (hno:∀x∈M,x.g≠g) (h:runFn E c lf g args H=some r):Der E M g args H r
 |fact (x:Fact) (hx:x∈M) (hfirst:∀y∈M,y.g=x.g→y.args=x.args→y.v=x.v):Der E M x.g x.args [] (x.v,[])
open Classical in
noncomputable def cupC(c c':CallF):CallF:=λg a H=>match c g a H with|some r=>some r|none=>c' g a H
theorem Der.one{E:Env}{M:List Fact}{g:FuncId}{args:List AV}{H:Heap}{r r':AV×Heap}(h:Der E M g args H r)(h':Der E M g args H r'):r=r':=by
 induction h generalizing r' with
 |run g args H r c lf hc hno h ih=>
  cases h' with
  |run _ _ _ _ c' lf' hc' hno' h'=>
   have l1:CallF.le c (cupC c c'):=by intro g a H r h;simp[cupC,h]
   have l2:CallF.le c' (cupC c c'):=by
    intro g a H r h;unfold cupC;cases hcc:c g a H with
    |none=>exact h
    |some s=>exact congrArg some (ih g a H s hcc (hc' g a H r h))
   have e1:=runFn_mono l1 (Nat.le_max_left lf lf') h;have e2:=runFn_mono l2 (Nat.le_max_right lf lf') h';exact Option.some.inj (e1.symm.trans e2)
  |fact x hx=>exact absurd rfl (hno x hx)
 |fact x hx hf=>
  generalize hg:x.g=g at h';generalize ha:x.args=args at h';generalize hH:([]:Heap)=H at h';cases h' with
  |run _ _ _ _ c' lf' hc' hno' h'=>exact absurd hg (hno' x hx)
  |fact y hy hf'=>rw[hf y hy hg.symm ha.symm]
theorem Der.ok{E:Env}(ok:EnvOk E)(hdr:DrOk E){M:List Fact}(hM:∀x∈M,FactOk E x){g:FuncId}{args:List AV}{H:Heap}{r:AV×Heap}(h:Der E M g args H r) :
 FunOk E g (λa H'=>open Classical in if a=args∧H'=H then some r else none):=by
 induction h with
 |run g args H r c lf hc hno h ih=>
  have hcall:CallsOk E c:=by intro g a H v H' hr;have:=ih g a H (v,H') hr;exact this a H v H' (by simp)
  intro a H' v H'' hr;dsimp only at hr;split at hr
  ·rename_i hh;obtain⟨rfl,rfl⟩:=hh;cases hr;exact runFn_ok ok hdr hcall lf g a H' v H'' h
  ·cases hr
 |fact x hx hf=>
  intro a H' v H'' hr;dsimp only at hr;split at hr
  ·rename_i hh;obtain⟨rfl,rfl⟩:=hh;cases hr;intro I K ρ w cargs h1 h2 h3;exact hM x hx I K ρ w cargs h1 h2 h3
  ·cases hr
open Classical in
noncomputable def sem(E:Env)(M:List Fact):CallF:=λg args H=>if h:∃r,Der E M g args H r then some h.choose else none
section
variable {E:Env}{M:List Fact}
theorem sem_iff{g:FuncId}{args:List AV}{H:Heap}{r:AV×Heap}:sem E M g args H=some r↔Der E M g args H r:=by
 unfold sem;constructor
 ·intro h;split at h
  ·rename_i hh;cases h;exact hh.choose_spec
  ·cases h
 ·intro h;have hh:∃r,Der E M g args H r:=⟨r,h⟩
  rw[dif_pos hh];exact congrArg some (Der.one hh.choose_spec h)
theorem sem_run{g:FuncId}{args:List AV}{H:Heap}{r:AV×Heap}(hno:∀x∈M,x.g≠g)(lf:Nat)(h:runFn E (sem E M) lf g args H=some r):sem E M g args H=some r:=sem_iff.2 (.run g args H r (sem E M) lf (λ_ _ _ _ h=>sem_iff.1 h) hno h)
theorem sem_ok(ok:EnvOk E)(hdr:DrOk E)(hM:∀x∈M,FactOk E x):CallsOk E (sem E M):=by intro g args H v H' h;exact(Der.ok ok hdr hM (sem_iff.1 h)) args H v H' (by simp)
end
end Go.Ax
/- AxEv: runs of statements in direct style: what a statement comes to, for every loop fuel that is great enough. -/
namespace Go.Ax
def obindE{α β:Type}(x:Option α)(f:α→β)(d:β):β:=match x with|some a=>f a|none=>d
def obind{α β:Type}(x:Option α)(f:α→Option β):Option β:=match x with|some a=>f a|none=>none
@[go_sem] theorem obind_some{α β:Type}(a:α)(f:α→Option β):obind (some a) f=f a:=by rfl
@[congr] theorem obind_congr{α β:Type}{x y:Option α}{f:α→Option β}(h:x=y):obind x f=obind y f:=by rw[h]
def runD(E:Env)(draw:Bool)(N:Nat)(call:CallF)(all:List Oper):List Oper→List LogE→Frm→Heap→Option (Frm×Heap×List LogE)
 | [],log,F,H=>some (F,H,log)
 |o::rest,log,F,H=>
  bif dstOk N o.dst then
   match o.guard with
   |none=>obind (stepOp E draw call F H o.op) λx=>runD E draw N call all rest (x.2.2::log) (setF F o.dst x.1) x.2.1
   |some (j,want)=>match guardSlot all j with
    |none=>none
    |some d=>match getF F d with
     |.bool b=>bif b then
      (bif want then obind (stepOp E draw call (setF F (some d) (.bool true)) H o.op) λx=>runD E draw N call all rest (x.2.2::log) (setF (setF F (some d) (.bool true)) o.dst x.1) x.2.1
      else runD E draw N call all rest (⟨[],[]⟩::log) (setF (setF F (some d) (.bool true)) o.dst (.tuple [])) H)
      else
       (bif want then runD E draw N call all rest (⟨[],[]⟩::log) (setF (setF F (some d) (.bool false)) o.dst (.tuple [])) H
       else obind (stepOp E draw call (setF F (some d) (.bool false)) H o.op) λx=>runD E draw N call all rest (x.2.2::log) (setF (setF F (some d) (.bool false)) o.dst x.1) x.2.1)
     |.tuple []=>runD E draw N call all rest (⟨[],[]⟩::log) (setF F o.dst (.tuple [])) H
     |_=>none
  else none
theorem runOps_runD{E:Env}{draw:Bool}{N:Nat}{call:CallF}{all:List Oper}{R:Type}{k:Frm→Heap→Option R}:∀(ops:List Oper) (log:List LogE) (F:Frm) (H:Heap),
 runOps E draw N call all ops log F H k=(match runD E draw N call all ops log F H with|some (F',H',log')=>(bif !draw||logOk all log'.length log' then k F' H' else none)|none=>none):=by
 intro ops
 induction ops with
 |nil=>intro log F H;rfl
 |cons o rest ih=>
  intro log F H;have step:∀(F1 F2:Frm),(match stepOp E draw call F1 H o.op with
   |some (v,H',l)=>runOps E draw N call all rest (l::log) (setF F2 o.dst v) H' k
   |none=>none)=(match obind (stepOp E draw call F1 H o.op) λx=>runD E draw N call all rest (x.2.2::log) (setF F2 o.dst x.1) x.2.1 with|some (F',H',log')=>(bif !draw||logOk all log'.length log' then k F' H' else none)|none=>none):=by
   intro F1 F2;cases stepOp E draw call F1 H o.op with
   |none=>rfl
   |some x=>exact ih _ _ _
  obtain⟨dst,op,ty,pos,after,guard⟩:=o;unfold runOps runD;cases hd:dstOk N dst with
  |false=>rfl
  |true=>
   cases guard with
   |none=>exact step F F
   |some g=>
    obtain⟨j,want⟩:=g;simp only[cond_true];cases hs:guardSlot all j with
    |none=>rfl
    |some d=>
     simp only;cases hv:getF F d with
     |bool b=>cases b<;>cases want<;>simp only[cond_true,cond_false]<;>first|exact step _ _|exact ih _ _ _
     |tuple vs=>cases vs with
      |nil=>exact ih _ _ _
      |cons a r=>rfl
     |_=>rfl
structure Cx where
 E:Env
 M:List Fact
 m0:Nat
 N:Nat
 keep:Nat→List Nat
 cur:Nat
def Ev(x:Cx)(c:Code)(F:Frm)(H:Heap)(r:AExit×Frm×Heap):Prop:=∃n0,∀lf,n0≤lf→∀(R:Type) (k:AExit→Frm→Heap→Option R),aevC x.E x.m0 x.N x.keep (sem x.E x.M) lf x.cur c F H k=k r.1 r.2.1 r.2.2
section
variable {x:Cx}{F F1:Frm}{H H1:Heap}{r:AExit×Frm×Heap}
theorem Ev.skip:Ev x .skip F H (.normal,F,H):=⟨0,λ_ _ _ _=>rfl⟩
theorem Ev.label{l}:Ev x (.label l) F H (.normal,F,H):=⟨0,λ_ _ _ _=>rfl⟩
theorem Ev.leave{id}:Ev x (.exit id) F H (.exit id,F,H):=⟨0,λ_ _ _ _=>rfl⟩
theorem Ev.ret:Ev x .ret F H (.ret,F,H):=⟨0,λ_ _ _ _=>rfl⟩
theorem nx_none{E:Env}{draw:Bool}{N:Nat}{call:CallF}{all ops:List Oper}{log:List LogE}{F:Frm}{H:Heap}{r:Frm×Heap×List LogE}(h:runD E draw N call all ops log F H=some r):nxOf ops=none:=by
 unfold nxOf;split
 ·rfl
 ·rename_i o rest;split
  ·rename_i it nx h1 h2 h3;obtain⟨d,op,ty,pos,after,guard⟩:=o;simp only at h1 h2 h3;subst h1 h2 h3;unfold runD at h;have hs:stepOp E draw call F H (.next (.tmp it) false)=none:=by
    have:aop E H.length (HeapF H) (.next (.tmp it) false) (opv E F)=none:=by show anext (HeapF H) (opv E F (.tmp it)) false=none;unfold anext;split<;>rfl
    unfold stepOp;simp only[this]
   rw[cond_eq_ite]at h;split at h
   ·simp only[hs,obind]at h;cases h
   ·cases h
  ·rfl
theorem Ev.region{id ops draw}{log:List LogE}(h:runD x.E draw x.N (sem x.E x.M) ops.toList ops.toList [] F H=some (F1,H1,log))(hl:(!draw||logOk ops.toList log.length log)=true):Ev x (.region id ops draw) F H (.normal,F1,H1):=⟨0,λ_ _ R k=>by simp only[aevC,nx_none h,runOps_runD,h,hl,cond_true]⟩
theorem Ev.seq{a b}(h:Ev x a F H (.normal,F1,H1))(h2:Ev x b F1 H1 r):Ev x (.seq a b) F H r:=by obtain⟨n,h⟩:=h;obtain⟨m,h2⟩:=h2;exact⟨max n m,λlf hl R k=>by simp only[aevC];rw[h lf (by omega)];exact h2 lf (by omega) R k⟩
theorem Ev.seq_ret{a b}(h:Ev x a F H (.ret,F1,H1)):Ev x (.seq a b) F H (.ret,F1,H1):=by obtain⟨n,h⟩:=h;exact⟨n,λlf hl R k=>by simp only[aevC];rw[h lf hl]⟩
theorem Ev.seq_exit{a b id}(h:Ev x a F H (.exit id,F1,H1)):Ev x (.seq a b) F H (.exit id,F1,H1):=by obtain⟨n,h⟩:=h;exact⟨n,λlf hl R k=>by simp only[aevC];rw[h lf hl]⟩
theorem Ev.cond_t{c a b}(hc:opv x.E F c = .bool true)(h:Ev x a F H r):Ev x (.cond c a b) F H r:=by obtain⟨n,h⟩:=h;exact⟨n,λlf hl R k=>by simp only[aevC,hc,cond_true];exact h lf hl R k⟩
theorem Ev.cond_f{c a b}(hc:opv x.E F c = .bool false)(h:Ev x b F H r):Ev x (.cond c a b) F H r:=by obtain⟨n,h⟩:=h;exact⟨n,λlf hl R k=>by simp only[aevC,hc,cond_false];exact h lf hl R k⟩
theorem Ev.block{id b}(h:Ev { x with cur:=id } b F H (.normal,F1,H1)):Ev x (.block id b) F H (.normal,F1,H1):=by obtain⟨n,h⟩:=h;exact⟨n,λlf hl R k=>by simp only[aevC];rw[h lf hl]⟩
theorem Ev.block_ret{id b}(h:Ev { x with cur:=id } b F H (.ret,F1,H1)):Ev x (.block id b) F H (.ret,F1,H1):=by obtain⟨n,h⟩:=h;exact⟨n,λlf hl R k=>by simp only[aevC];rw[h lf hl]⟩
theorem Ev.block_exit{id b}(h:Ev { x with cur:=id } b F H (.exit id,F1,H1)):Ev x (.block id b) F H (.normal,F1,H1):=by obtain⟨n,h⟩:=h;exact⟨n,λlf hl R k=>by simp only[aevC];rw[h lf hl];simp⟩
theorem Ev.block_on{id id' b}(h:Ev { x with cur:=id } b F H (.exit id',F1,H1))(hne:(id'==id)=false):Ev x (.block id b) F H (.exit id',F1,H1):=by obtain⟨n,h⟩:=h;exact⟨n,λlf hl R k=>by simp only[aevC];rw[h lf hl];simp only[hne,cond_false]⟩
theorem Ev.scope{b}(h:Ev x b F H r):Ev x (.scope b) F H r:=by obtain⟨n,h⟩:=h;exact⟨n,λlf hl R k=>by simp only[aevC];exact h lf hl R k⟩
def EvL(x:Cx)(b:Code)(F:Frm)(H:Heap)(r:AExit×Frm×Heap):Prop:=
 ∃n0,∀lf,n0≤lf→∀n,n0≤n→∀(R:Type) (k:AExit→Frm→Heap→Option R),
  loopN x.m0 (x.keep x.cur) (λF H k=>aevC x.E x.m0 x.N x.keep (sem x.E x.M) lf x.cur b F H k) n F H k=k r.1 r.2.1 r.2.2
theorem Ev.loop{b}(hx:nxLoop b=none)(hz:frzB (x.keep x.cur)=false)(h:EvL x b F H r):Ev x (.loop b) F H r:=by obtain⟨n,h⟩:=h;exact⟨n,λlf hl R k=>by simp only[aevC,hx,hz,cond_false];exact h lf hl lf hl R k⟩
theorem gcD_inv{m0:Nat}{keep:List Nat}(hg:gcD m0 keep F H=some (F1,H1)) :
 (nodupB (gcIds m0 (keepF keep F) H)&&(gcIds m0 (keepF keep F) H).all (λb=>Nat.ble m0 b)&&Nat.ble m0 H.length)=true∧renF (gcPi m0 (gcIds m0 (keepF keep F) H)) (keepF keep F)=F1∧gcH m0 (gcIds m0 (keepF keep F) H) H=H1:=by
 unfold gcD at hg;simp only[cond_eq_ite]at hg;split at hg
 case isFalse=>cases hg
 rename_i hc;cases hg;exact⟨hc,rfl,rfl⟩
theorem EvL.leave{b:Code}{F2:Frm}{H2:Heap}{e:AExit}(hg:gcD x.m0 (x.keep x.cur) F H=some (F1,H1))(h:Ev x b F1 H1 (e,F2,H2))(he:e≠ .normal):EvL x b F H (e,F2,H2):=by
 obtain⟨n0,h⟩:=h;refine⟨n0+1,λlf hl n hn R k=>?_⟩;obtain⟨n,rfl⟩:∃l,n=l+1:=⟨n-1,by omega⟩
 obtain⟨h1,h2,h3⟩:=gcD_inv hg;simp only[loopN,h1,h2,h3,cond_true];rw[h lf (by omega)];cases e with
 |normal=>exact absurd rfl he
 |exit id=>rfl
 |ret=>rfl
theorem EvL.again{b:Code}{F2:Frm}{H2:Heap}(hg:gcD x.m0 (x.keep x.cur) F H=some (F1,H1))(h:Ev x b F1 H1 (.normal,F2,H2))(h':EvL x b F2 H2 r):EvL x b F H r:=by
 obtain⟨n0,h⟩:=h;obtain⟨m0,h'⟩:=h';refine⟨max n0 m0+1,λlf hl n hn R k=>?_⟩;obtain⟨n,rfl⟩:∃l,n=l+1:=⟨n-1,by omega⟩
 obtain⟨h1,h2,h3⟩:=gcD_inv hg;simp only[loopN,h1,h2,h3,cond_true];rw[h lf (by omega)];exact h' lf (by omega) n (by omega) R k
theorem sem_ev{E:Env}{M:List Fact}{g:FuncId}{args:List AV}{H:Heap}{code:Code}{N:Nat}{results:List ResultVar}{e:AExit}{F':Frm}{H':Heap}{vs:List AV}{v:AV}{H2:Heap}
 (hfn:E.fn g=some ⟨code,N,results⟩)(hno:∀y∈M,y.g≠g)(hN:Nat.ble args.length N=true)(h:Ev ⟨E,M,H.length,N,E.keep g,0⟩ code (entryF 0 args) H (e,F',H'))(he:∀id,e≠ .exit id)
 (hr:aresults E F' H' results=some vs)(hfin:finish (E.thaw g) H.length (oneOf vs) H'=some (v,H2))(hp:E.prim g args=none)(hz:E.zf g=false)(hw:E.raw g=false):sem E M g args H=some (v,H2):=by
 obtain⟨n,h⟩:=h;refine sem_run hno n ?_;unfold runFn;have hph:primH E g args H=none:=primH_none hp;rw[hph,hfn];simp only;rw[hN];simp only[cond_true];unfold aevX;rw[hz];simp only[cond_false];refine(h n (Nat.le_refl _) _ _).trans ?_;cases e with
 |exit id=>exact absurd rfl (he id)
 |normal=>simp only[hr,endV,hw];exact hfin
 |ret=>simp only[hr,endV,hw];exact hfin
end
end Go.Ax
/- AxSimp: the evaluator's steps as rewrite rules. -/
namespace Go.Ax
section
variable {E:Env}{draw:Bool}{N:Nat}{call:CallF}{all rest:List Oper}{log:List LogE}{F:Frm}{H:Heap}
@[go_sem] theorem getF_hit(s:Nat)(v:AV)(r:Frm):getF ((s,v)::r) s=v:=by simp only[getF,nbeq,cond_eq_ite,beq_self_eq_true,if_true]
@[go_sem] theorem getF_miss{s t:Nat}(h:(s=t)=False)(v:AV)(r:Frm):getF ((s,v)::r) t=getF r t:=by have:¬s=t:=λe=>h▸e;simp only[getF,nbeq,cond_eq_ite,beq_iff_eq,if_neg this]
@[go_sem] theorem setF_some(d:Nat)(v:AV):setF F (some d) v=(d,v)::F:=by rfl
@[go_sem] theorem setF_none(v:AV):setF F none v=F:=by rfl
@[go_sem] theorem opv_tmp(t:Nat):opv E F (.tmp t)=getF F t:=by rfl
@[go_sem] theorem opv_func(f:Nat):opv E F (.func f) = .func (.func f) [] []:=by rfl
@[go_sem] theorem opv_bool(b:Bool):opv E F (.const (.bool b)) = .bool b:=by rfl
@[go_sem] theorem opv_int(k:IntKind)(n:Int):opv E F (.const (.int k n)) = .int k n:=by rfl
@[go_sem] theorem opv_nilptr:opv E F (.const (.pointer none)) = .nilptr:=by rfl
@[go_sem] theorem opv_nilslice:opv E F (.const (.slice none 0 0)) = .nilslice:=by rfl
@[go_sem] theorem opv_nilfunc:opv E F (.const .nilFunc) = .nilfunc:=by rfl
@[go_sem] theorem opv_str(s:ByteArray):opv E F (.const (.string s)) = .str s.data.toList:=by rfl
@[go_sem] theorem runD_nil:runD E draw N call all [] log F H=some (F,H,log):=by rfl
@[go_sem] theorem dstOk_some(d:Nat):dstOk N (some d)=decide (d<N):=by rw[dstOk,Bool.eq_iff_iff];simp[Nat.blt_eq]
@[go_sem] theorem dstOk_none:dstOk N none=true:=by rfl
theorem runD_op(dst:Option Nat)(op:Op)(ty:TypeId)(pos:String)(after:Array Edge) :
 runD E draw N call all ({ dst:=dst,op:=op,type:=ty,pos:=pos,after:=after,guard:=none }::rest) log F H =
  bif dstOk N dst then obind (stepOp E draw call F H op) λx=>runD E draw N call all rest (x.2.2::log) (setF F dst x.1) x.2.1 else none:=by
 rfl
def runG(E:Env)(draw:Bool)(N:Nat)(call:CallF)(all:List Oper)(dst:Option Nat)(op:Op)(rest:List Oper)(log:List LogE)(F:Frm)(H:Heap)(d:Nat)(want:Bool):AV→Option (Frm×Heap×List LogE)
 |.bool b=>bif b then
  (bif want then obind (stepOp E draw call (setF F (some d) (.bool true)) H op) λx=>runD E draw N call all rest (x.2.2::log) (setF (setF F (some d) (.bool true)) dst x.1) x.2.1
  else runD E draw N call all rest (⟨[],[]⟩::log) (setF (setF F (some d) (.bool true)) dst (.tuple [])) H)
  else
   (bif want then runD E draw N call all rest (⟨[],[]⟩::log) (setF (setF F (some d) (.bool false)) dst (.tuple [])) H
   else obind (stepOp E draw call (setF F (some d) (.bool false)) H op) λx=>runD E draw N call all rest (x.2.2::log) (setF (setF F (some d) (.bool false)) dst x.1) x.2.1)
 |.tuple []=>runD E draw N call all rest (⟨[],[]⟩::log) (setF F dst (.tuple [])) H
 |_=>none
theorem runD_guard(dst:Option Nat)(op:Op)(ty:TypeId)(pos:String)(after:Array Edge)(j:Nat)(want:Bool) :
 runD E draw N call all ({ dst:=dst,op:=op,type:=ty,pos:=pos,after:=after,guard:=some (j,want) }::rest) log F H =
  bif dstOk N dst then obind (guardSlot all j) λd=>runG E draw N call all dst op rest log F H d want (getF F d)else none:=by
 unfold runD;cases dstOk N dst with
 |false=>rfl
 |true=>
  simp only[cond_true];cases guardSlot all j with
  |none=>rfl
  |some d=>simp only[obind];unfold runG;rfl
section
variable {dst:Option Nat}{op:Op}{d:Nat}
theorem runG_tt:runG E draw N call all dst op rest log F H d true (.bool true)=obind (stepOp E draw call ((d,.bool true)::F) H op) λx=>runD E draw N call all rest (x.2.2::log) (setF ((d,.bool true)::F) dst x.1) x.2.1:=by rfl
theorem runG_tf:runG E draw N call all dst op rest log F H d true (.bool false)=runD E draw N call all rest (⟨[],[]⟩::log) (setF ((d,.bool false)::F) dst (.tuple [])) H:=by rfl
theorem runG_ft:runG E draw N call all dst op rest log F H d false (.bool true)=runD E draw N call all rest (⟨[],[]⟩::log) (setF ((d,.bool true)::F) dst (.tuple [])) H:=by rfl
theorem runG_ff:runG E draw N call all dst op rest log F H d false (.bool false)=obind (stepOp E draw call ((d,.bool false)::F) H op) λx=>runD E draw N call all rest (x.2.2::log) (setF ((d,.bool false)::F) dst x.1) x.2.1:=by rfl
end
attribute [go_sem] runD_op runD_guard runG_tt runG_tf runG_ft runG_ff
@[congr] theorem runG_congr{dst:Option Nat}{op:Op}{d:Nat}{want:Bool}{v v':AV}(h:v=v'):runG E draw N call all dst op rest log F H d want v=runG E draw N call all dst op rest log F H d want v':=by rw[h]
/-! ### one operation -/
@[go_sem] theorem st_move(x:Operand):stepOp E draw call F H (.move x)=some (opv E F x,H,⟨[],[]⟩):=by rfl
@[go_sem] theorem st_assign(x:Operand):stepOp E draw call F H (.assign x)=some (opv E F x,H,⟨[],[]⟩):=by rfl
theorem step_pure{op:Op}{v:Option AV}(h:aop E H.length (HeapF H) op (opv E F)=v.map (·,.none))(hs:stepOp E draw call F H op=match aop E H.length (HeapF H) op (opv E F)with
 |some (v,e)=>bif e.fits H.length then some (v,effH H e,⟨aneeds op (opv E F),e.keys H.length⟩)else none
 |none=>none):stepOp E draw call F H op=obind v λv=>some (v,H,⟨aneeds op (opv E F),[]⟩):=by
 rw[hs,h];cases v<;>rfl
@[go_sem] theorem st_bin(op:BinOp)(t:TypeId)(x y:Operand)(z):stepOp E draw call F H (.binOp op t x y z)=obind (abin E op t (opv E F x) (opv E F y) (isConstOp x||isConstOp y)) λv=>some (v,H,⟨[],[]⟩):=step_pure rfl rfl
@[go_sem] theorem st_un(op:UnOp)(t:TypeId)(x:Operand):stepOp E draw call F H (.unOp op t x)=obind (aun op (opv E F x)) λv=>some (v,H,⟨[],[]⟩):=step_pure rfl rfl
@[go_sem] theorem st_conv(s d:TypeId)(x:Operand):stepOp E draw call F H (.convert s d x)=obind (aconvH E (HeapF H) s d (opv E F x)) λv=>some (v,H,⟨topRef (opv E F x),[]⟩):=step_pure rfl rfl
@[go_sem] theorem st_load(t:TypeId)(x:Operand):stepOp E draw call F H (.load t x)=obind (aload E (HeapF H) t (opv E F x)) λv=>some (v,H,⟨topRef (opv E F x),[]⟩):=step_pure rfl rfl
@[go_sem] theorem st_slice(t:TypeId)(x:Operand)(lo hi mx:Option Operand):stepOp E draw call F H (.slice t x lo hi mx)=obind (aslice E (HeapF H) t (opv E F x) (lo.map (opv E F)) (hi.map (opv E F)) (mx.map (opv E F))) λv=>some (v,H,⟨topRef (opv E F x),[]⟩):=step_pure rfl rfl
@[go_sem] theorem st_fieldAddr(t:TypeId)(x:Operand)(f:Nat):stepOp E draw call F H (.fieldAddr t x f)=obind (afieldAddr E t (opv E F x) f) λv=>some (v,H,⟨[],[]⟩):=step_pure rfl rfl
@[go_sem] theorem st_indexAddr(t:TypeId)(x i:Operand):stepOp E draw call F H (.indexAddr t x i)=obind (aindexAddr E (HeapF H) t (opv E F x) (opv E F i)) λv=>some (v,H,⟨topRef (opv E F x),[]⟩):=step_pure rfl rfl
@[go_sem] theorem st_build(t:TypeId)(ps:Array (Nat×Operand)):stepOp E draw call F H (.build t ps)=obind (abuild E t (ps.toList.map λp=>(p.1,opv E F p.2))) λv=>some (v,H,⟨[],[]⟩):=step_pure rfl rfl
@[go_sem] theorem st_lookup(t:TypeId)(x k:Operand)(o:Bool):stepOp E draw call F H (.lookup t x k o)=obind (oor (alookup E (HeapF H) t (opv E F x) (opv E F k) o) (alookS E (HeapF H) t (opv E F x) (opv E F k) o)) λv=>some (v,H,⟨topRef (opv E F x),[]⟩):=step_pure rfl rfl
@[go_sem] theorem st_makeFunc(fn:Fn)(first cap:Array Operand):stepOp E draw call F H (.makeFunc fn first cap)=some (.func fn (first.toList.map (opv E F)) (cap.toList.map (opv E F)),H,⟨[],[]⟩):=by rfl
def apickO(c a b:AV):Option AV:=match c with|.bool t=>some (apick t a b)|_=>none
@[go_sem] theorem st_pick(c a b:Operand):stepOp E draw call F H (.pick c a b)=obind (apickO (opv E F c) (opv E F a) (opv E F b)) λv=>some (v,H,⟨[],[]⟩):=by refine step_pure ?_ rfl;simp only[aop,apickO];cases opv E F c<;>rfl
@[go_sem] theorem apickO_bool(t a b:Bool):apickO (.bool t) (.bool a) (.bool b)=some (.bool (bif t then a else b)):=by rfl
@[go_sem] theorem apickO_true(a b:AV):apickO (.bool true) a b=some (apick true a b):=by rfl
@[go_sem] theorem apickO_false(a b:AV):apickO (.bool false) a b=some (apick false a b):=by rfl
theorem apick_t(a b:AV):apick true a b=a:=by unfold apick;split<;>simp
theorem apick_f(a b:AV):apick false a b=b:=by unfold apick;split<;>simp
attribute [go_sem] apick_t apick_f
def anilCheck(x:AV):Option AV:=match x with
 |.ptr b i o=>some (.ptr b i o)
 |.iptr cs=>some (.iptr cs)
 |.func (.func f) fs cs=>some (.func (.func f) fs cs)
 |_=>none
attribute [go_sem] anilCheck
@[go_sem] theorem st_nilCheck(x:Operand):stepOp E draw call F H (.nilCheck x)=obind (anilCheck (opv E F x)) λv=>some (v,H,⟨[],[]⟩):=by
 refine step_pure ?_ rfl;simp only[aop];generalize opv E F x=y;cases y<;>try rfl
 rename_i fn _ _;cases fn<;>rfl
def aextract(x:AV)(i:Nat):Option AV:=match x with|.tuple vs=>vs[i]?|_=>none
attribute [go_sem] aextract
@[go_sem] theorem st_extract(t:Operand)(i:Nat):stepOp E draw call F H (.extract t i)=obind (aextract (opv E F t) i) λv=>some (v,H,⟨[],[]⟩):=by
 refine step_pure ?_ rfl;simp only[aop,aextract];cases opv E F t with
 |tuple vs=>simp only;cases vs[i]?<;>rfl
 |_=>rfl
theorem step_eff{op:Op}{v:Option (AV×Eff)}(h:aop E H.length (HeapF H) op (opv E F)=v)(hs:stepOp E draw call F H op=match aop E H.length (HeapF H) op (opv E F)with
 |some (v,e)=>bif e.fits H.length then some (v,effH H e,⟨aneeds op (opv E F),e.keys H.length⟩)else none
 |none=>none){n:List Nat}(hn:aneeds op (opv E F)=n):stepOp E draw call F H op=obind v λx=>bif x.2.fits H.length then some (x.1,effH H x.2,⟨n,x.2.keys H.length⟩)else none:=by
 rw[hs,h];subst hn;cases v<;>rfl
@[go_sem] theorem st_alloc(t:TypeId):stepOp E draw call F H (.alloc t)=obind (anew E H.length t) λx=>bif x.2.fits H.length then some (x.1,effH H x.2,⟨[],x.2.keys H.length⟩)else none:=step_eff rfl rfl rfl
@[go_sem] theorem st_box(t:TypeId)(x:Operand):stepOp E draw call F H (.box t x)=obind (abox H.length (opv E F x)) λx=>bif x.2.fits H.length then some (x.1,effH H x.2,⟨[],x.2.keys H.length⟩)else none:=step_eff rfl rfl rfl
@[go_sem] theorem st_store(t:TypeId)(a x:Operand):stepOp E draw call F H (.store t a x)=obind (astore E (HeapF H) t (opv E F a) (opv E F x)) λe=>bif e.fits H.length then some (.tuple [],effH H e,⟨topRef (opv E F a),e.keys H.length⟩)else none:=by refine(step_eff (v:=(astore E (HeapF H) t (opv E F a) (opv E F x)).map (.tuple [],·)) rfl rfl rfl).trans ?_;cases astore E (HeapF H) t (opv E F a) (opv E F x)<;>rfl
@[go_sem] theorem st_buildSlice(t:TypeId)(n:Nat)(ps:Array (Nat×Operand)):stepOp E draw call F H (.buildSlice t n ps)=obind (abuildSlice E H.length t n (ps.toList.map λp=>(p.1,opv E F p.2))) λx=>bif x.2.fits H.length then some (x.1,effH H x.2,⟨[],x.2.keys H.length⟩)else none:=step_eff rfl rfl rfl
@[go_sem] theorem st_makeSlice(t:TypeId)(l c:Operand):stepOp E draw call F H (.makeSlice t l c)=obind (amakeSlice E H.length t (opv E F l) (opv E F c)) λx=>bif x.2.fits H.length then some (x.1,effH H x.2,⟨[],x.2.keys H.length⟩)else none:=step_eff rfl rfl rfl
@[go_sem] theorem st_makeMap(t:TypeId):stepOp E draw call F H (.makeMap t none)=some (.map H.length,H++[some (newMap E t)],⟨[],[H.length]⟩):=by rfl
@[go_sem] theorem st_mapUpdate(t:TypeId)(m k x:Operand):stepOp E draw call F H (.mapUpdate t m k x)=obind (oor (amapUpdate E (HeapF H) t (opv E F m) (opv E F k) (opv E F x)) (aupdS E (HeapF H) t (opv E F m) (opv E F k) (opv E F x))) λe=>bif e.fits H.length then some (.tuple [],effH H e,⟨topRef (opv E F m),e.keys H.length⟩)else none:=by refine(step_eff (v:=(oor (amapUpdate E (HeapF H) t (opv E F m) (opv E F k) (opv E F x)) (aupdS E (HeapF H) t (opv E F m) (opv E F k) (opv E F x))).map (.tuple [],·)) rfl rfl rfl).trans ?_;cases oor (amapUpdate E (HeapF H) t (opv E F m) (opv E F k) (opv E F x)) (aupdS E (HeapF H) t (opv E F m) (opv E F k) (opv E F x))<;>rfl
@[go_sem] theorem st_len(x:Operand)(t:TypeId):stepOp E draw call F H (.call { callee:=.builtin .len,args:=#[x],argTypes:=#[t] })=obind (alen E (HeapF H) t (opv E F x)) λv=>some (v,H,⟨topRef (opv E F x),[]⟩):=by refine(step_pure (v:=alen E (HeapF H) t (opv E F x)) rfl rfl).trans ?_;simp[aneeds]
@[go_sem] theorem st_min(x:Operand)(xs:List Operand)(ts:Array TypeId):stepOp E draw call F H (.call { callee:=.builtin .min,args:=⟨x::xs⟩,argTypes:=ts })=obind (amin (opv E F x) (xs.map (opv E F))) λv=>some (v,H,⟨(x::xs).flatMap λx=>topRef (opv E F x),[]⟩):=step_pure rfl rfl
@[go_sem] theorem st_max(x:Operand)(xs:List Operand)(ts:Array TypeId):stepOp E draw call F H (.call { callee:=.builtin .max,args:=⟨x::xs⟩,argTypes:=ts })=obind (amax (opv E F x) (xs.map (opv E F))) λv=>some (v,H,⟨(x::xs).flatMap λx=>topRef (opv E F x),[]⟩):=step_pure rfl rfl
@[go_sem] theorem st_append(x y:Operand)(t u:TypeId):stepOp E draw call F H (.call { callee:=.builtin .append,args:=#[x,y],argTypes:=#[t,u] })=obind (oor (aappend E (HeapF H) H.length t u (opv E F x) (opv E F y)) (aappendZ E H.length t u (opv E F x) (opv E F y))) λz=>bif z.2.fits H.length then some (z.1,effH H z.2,⟨topRef (opv E F x)++topRef (opv E F y),z.2.keys H.length⟩)else none:=step_eff rfl rfl (by simp[aneeds])
@[go_sem] theorem aappendZ_s{E:Env}{n:Nat}{t u:TypeId}{x:AV}{b off len:Nat}{cap:Option Nat}:aappendZ E n t u (.slice b off len cap) x=none:=by unfold aappendZ;rfl
@[go_sem] theorem aappendZ_ns{E:Env}{n:Nat}{t u:TypeId}{b off len:Nat}{cap:Option Nat}:aappendZ E n t u .nilslice (.slice b off len cap)=none:=by unfold aappendZ;rfl
@[go_sem] theorem oor_none{α:Type}(x:Option α):oor x none=x:=by cases x<;>rfl
@[go_sem] theorem oor_some{α:Type}(x:α)(y:Option α):oor (some x) y=some x:=by rfl
@[go_sem] theorem chgC_func{g:FuncId}{fs cs:List AV}{H H':Heap}{σ:List Nat}:chgC E (.func (.func g) fs cs) H H' σ=bif E.ro g then chg H H' σ else σ:=by rfl
@[go_sem] theorem chgC_yfn{b:Nat}{H H':Heap}{σ:List Nat}:chgC E (.yfn b) H H' σ=σ:=by rfl
@[go_sem] theorem chg_nil{H H':Heap}:chg H H' []=[]:=by rfl
@[go_sem] theorem chg_cons{H H':Heap}{b:Nat}{r:List Nat}:chg H H' (b::r)=bif sameO (HeapF H b) (HeapF H' b)then chg H H' r else b::chg H H' r:=by rfl
@[go_sem] theorem cond_same{α:Type}(b:Bool)(x:α):(bif b then x else x)=x:=by cases b<;>rfl
@[go_sem] theorem keysC_same(k σ:List Nat)(n:Nat):keysC k σ n n=k:=by unfold keysC;rw[cond_eq_ite,if_pos (by rw[Nat.beq_eq])]
attribute [go_sem] List.range'_succ List.range'_zero
@[go_sem] theorem st_call(f:Operand)(args:Array Operand)(ts:Array TypeId):stepOp E draw call F H (.call { callee:=.value f,args:=args,argTypes:=ts })=obind (callV E draw call (opv E F f) (args.toList.map (opv E F)) H) λx=>some (x.1,x.2.1,⟨x.2.2,keysC (chgC E (opv E F f) H x.2.1 x.2.2) x.2.2 H.length x.2.1.length⟩):=by simp only[stepOp];cases callV E draw call (opv E F f) (args.toList.map (opv E F)) H<;>rfl
end
/-! ### tables read by type -/
section
variable (E:Env)
def aggT(t:TypeId):Option Bool:=(E.und t).map aggDesc
def fldT(t:TypeId)(f:Nat):Option (Nat×TypeId):=match E.und t with|some (.struct fs)=>(fs[f]?).map λd=>(d.offset,d.type)|_=>none
def bldT(t:TypeId):Bool:=match E.und t with
 |some (.struct fs)=>fs.toList.all (λf=>(E.und f.type).isSome)
 |some (.array _ e)=>(E.und e).isSome
 |_=>false
def plcT(t:TypeId)(i:Nat):Option (Nat×Nat):=match E.und t with
 |some (.struct fs)=>(fs[i]?).map λf=>(f.offset,E.sz f.type)
 |some (.array _ e)=>some (i*E.sz e,E.sz e)
 |_=>none
def isT(t:TypeId):Bool:=(E.und t).isSome
end
section
variable {E:Env}{h:FHeap}
def pickC:Option Bool→List AV→Option AV
 |some true,cs=>some (.agg cs)
 |some false,cs=>cs.head?
 |none,_=>none
attribute [go_sem] pickC List.head?_cons
@[go_sem] theorem ofCells_T(t:TypeId)(cs:List AV):ofCells E t cs=bif decide (cs.length=E.sz t)then pickC (aggT E t) cs else none:=by
 unfold ofCells aggT;have e:(cs.length==E.sz t)=decide (cs.length=E.sz t):=by by_cases h:cs.length=E.sz t<;>simp[h]
 rw[e];cases E.und t with
 |none=>cases decide (cs.length=E.sz t)<;>rfl
 |some d=>cases decide (cs.length=E.sz t)<;>simp[pickC]<;>cases aggDesc d<;>rfl
def fieldAt(E:Env)(p:AV)(o:Nat)(t:TypeId):Option AV:=
 bif decide (E.sz t≠0)&&isT E t then match p with
  |.ptr b i q=>some (.ptr b i (q+o))
  |.iptr cs=>some (.iptr (cs.drop o))
  |_=>none
 else none
attribute [go_sem] fieldAt
@[go_sem] theorem afieldAddr_T(t:TypeId)(p:AV)(f:Nat):afieldAddr E t p f=obind (fldT E t f) λx=>fieldAt E p x.1 x.2:=by
 unfold afieldAddr fldT fieldAt isT;cases E.und t with
 |none=>rfl
 |some d=>
  cases d<;>try rfl
  rename_i fs;simp only;cases fs[f]? with
  |none=>rfl
  |some fd=>
   by_cases h:E.sz fd.type=0
   ·simp[h,obind]
   ·have e:(E.sz fd.type==0)=false:=beq_eq_false_iff_ne.2 h;simp[h,e,obind];rfl
@[go_sem] theorem abuild_T(t:TypeId)(parts:List (Nat×AV)):abuild E t parts=bif bldT E t then obind (E.zero t) λz=>obind (afill (plcT E t) z parts) λcs=>some (.agg cs)else none:=by
 unfold abuild bldT plcT;cases hz:E.zero t with
 |none=>
  simp only[obind];cases E.und t with
  |none=>rfl
  |some d=>cases d<;>simp
 |some z=>
  cases hu:E.und t with
  |none=>rfl
  |some d=>
   cases d<;>try rfl
   ·simp only[obind];split<;>simp_all<;>split<;>simp_all<;>rfl
   ·simp only[obind];split<;>simp_all<;>split<;>simp_all<;>rfl
end
/-! ### values -/
section
variable {E:Env}{h:FHeap}{t:TypeId}{k:IntKind}{a b:Int}{p q:Bool}{c:Bool}
theorem ikb(k:IntKind):(k==k)=true:=by cases k<;>rfl
@[go_sem] theorem abin_add:abin E .add t (.int k a) (.int k b) c=some (.int k (k.wrap (a+b))):=by simp only[abin,ikb,aint,cond_true]
@[go_sem] theorem abin_sub:abin E .sub t (.int k a) (.int k b) c=some (.int k (k.wrap (a-b))):=by simp only[abin,ikb,aint,cond_true]
@[go_sem] theorem abin_mul:abin E .mul t (.int k a) (.int k b) c=some (.int k (k.wrap (a*b))):=by simp only[abin,ikb,aint,cond_true]
@[go_sem] theorem abin_quo(hb:(b=0)=False):abin E .quo t (.int k a) (.int k b) c=some (.int k (k.wrap (a.tdiv b))):=by
 have:(b==0)=false:=by rw[beq_eq_false_iff_ne];exact λe=>hb▸e
 simp only[abin,ikb,aint,cond_true,this,cond_false]
@[go_sem] theorem abin_rem(hb:(b=0)=False):abin E .rem t (.int k a) (.int k b) c=some (.int k (a.tmod b)):=by
 have:(b==0)=false:=by rw[beq_eq_false_iff_ne];exact λe=>hb▸e
 simp only[abin,ikb,aint,cond_true,this,cond_false]
def iand(k:IntKind)(a b:Int):Int:=k.wrap (BitVec.ofInt k.bits a&&&BitVec.ofInt k.bits b).toNat
def iandNot(k:IntKind)(a b:Int):Int:=k.wrap (BitVec.ofInt k.bits a &&& ~~~ BitVec.ofInt k.bits b).toNat
@[go_sem] theorem abin_and:abin E .and t (.int k a) (.int k b) c=some (.int k (iand k a b)):=by simp only[abin,ikb,aint,cond_true,iand]
@[go_sem] theorem abin_andNot:abin E .andNot t (.int k a) (.int k b) c=some (.int k (iandNot k a b)):=by simp only[abin,ikb,aint,cond_true,iandNot]
theorem beqd(a b:Int):(a==b)=decide (a=b):=by
 by_cases h:a=b
 ·subst h;simp
 ·rw[beq_eq_false_iff_ne.2 h,decide_eq_false h]
@[go_sem] theorem abin_eql:abin E .eql t (.int k a) (.int k b) c=some (.bool (decide (a=b))):=by simp only[abin,ikb,aint,cond_true,beqd]
@[go_sem] theorem abin_neq:abin E .neq t (.int k a) (.int k b) c=some (.bool (!decide (a=b))):=by simp only[abin,ikb,aint,cond_true,bne,beqd]
@[go_sem] theorem abin_lss:abin E .lss t (.int k a) (.int k b) c=some (.bool (decide (a<b))):=by simp only[abin,ikb,aint,cond_true]
@[go_sem] theorem abin_leq:abin E .leq t (.int k a) (.int k b) c=some (.bool (decide (a≤b))):=by simp only[abin,ikb,aint,cond_true]
@[go_sem] theorem abin_gtr:abin E .gtr t (.int k a) (.int k b) c=some (.bool (decide (b<a))):=by simp only[abin,ikb,aint,cond_true]
@[go_sem] theorem abin_geq:abin E .geq t (.int k a) (.int k b) c=some (.bool (decide (b≤a))):=by simp only[abin,ikb,aint,cond_true]
@[go_sem] theorem bbeq(b:Bool):(b==b)=true:=by cases b<;>rfl
@[go_sem] theorem abin_beql(ht:E.und t=some .bool):abin E .eql t (.bool p) (.bool q) c=some (.bool (p==q)):=by simp[abin,AV.eqShape,aeq,ht]
@[go_sem] theorem abin_str{op:BinOp}{x y:List UInt8}(h1:op≠ .shl:=by decide)(h2:op≠ .shr:=by decide):abin E op t (.str x) (.str y) c=astr op x y:=by cases op<;>first|rfl|exact absurd rfl h1|exact absurd rfl h2
@[go_sem] theorem aun_not:aun .not (.bool p)=some (.bool (!p)):=by rfl
@[go_sem] theorem HeapF_zero(o:Option AObj)(r:Heap):HeapF (o::r) 0=o:=by simp[HeapF]
@[go_sem] theorem HeapF_succ(o:Option AObj)(r:Heap)(n:Nat):HeapF (o::r) (n+1)=HeapF r n:=by simp[HeapF]
def slT(E:Env)(t:TypeId):Option TypeId:=match E.und t with|some (.slice e)=>some e|_=>none
theorem slT_iff{e:TypeId}:slT E t=some e↔E.und t=some (.slice e):=by
 unfold slT;constructor
 ·intro h;split at h
  ·rename_i heq;cases h;exact heq
  ·cases h
 ·intro h;rw[h]
def rowO:Option AObj→Option (Nat×List (List AV))
 |some (.row k rows)=>some (k,rows)
 |_=>none
attribute [go_sem] rowO
def rowAt(rows:List (List AV))(i:Int):Option (List AV):=if 0≤i then rows[i.toNat]? else none
@[go_sem] theorem rowAt_nat(rows:List (List AV))(n:Nat):rowAt rows (n:Int)=rows[n]?:=by simp[rowAt]
theorem rowAt_pos{rows:List (List AV)}{i:Int}(h:0≤i):rowAt rows i=rows[i.toNat]?:=by simp[rowAt,h]
def inR(i:Int)(n:Nat):Bool:=decide (0≤i)&&decide (i<n)
@[go_sem] theorem inR_nat(j n:Nat):inR (j:Int) n=decide (j<n):=by
 unfold inR;rw[decide_eq_true (by omega:(0:Int)≤j),Bool.true_and];by_cases h:j<n
 ·rw[decide_eq_true h,decide_eq_true (by omega)]
 ·rw[decide_eq_false h,decide_eq_false (by omega)]
theorem aidx_inR{i:Int}{n:Nat}:aidx (.int k i) n=bif inR i n then some i.toNat else none:=rfl
@[go_sem] theorem alen_slice{b o n:Nat}{cp:Option Nat}(hs:(slT E t).isSome=true):alen E h t (.slice b o n cp)=some (.int .i64 n):=by obtain⟨e,he⟩:=Option.isSome_iff_exists.1 hs;simp only[alen,slT_iff.1 he]
@[go_sem] theorem alen_islice{rows:List (List AV)}{cp:Option Nat}(hs:(slT E t).isSome=true):alen E h t (.islice rows cp)=some (.int .i64 rows.length):=by obtain⟨e,he⟩:=Option.isSome_iff_exists.1 hs;simp only[alen,slT_iff.1 he]
@[go_sem] theorem alen_nil(hs:(slT E t).isSome=true):alen E h t .nilslice=some (.int .i64 0):=by obtain⟨e,he⟩:=Option.isSome_iff_exists.1 hs;simp only[alen,slT_iff.1 he]
def idxI(E:Env)(e:Option TypeId)(r:Option (List AV)):Option AV:=match e,r with
 |some e,some r=>bif isT E e&&decide (r.length=E.sz e)then some (.iptr r)else none
 |_,_=>none
attribute [go_sem] idxI
theorem beqN(a b:Nat):(a==b)=decide (a=b):=by
 by_cases h:a=b
 ·subst h;simp
 ·rw[beq_eq_false_iff_ne.2 h,decide_eq_false h]
@[go_sem] theorem idxA_islice{rows:List (List AV)}{cp:Option Nat}{i:Int}:aindexAddr E h t (.islice rows cp) (.int k i)=match slT E t with|some e=>idxI E (some e) (rowAt rows i)|none=>aindexAddr E h t (.islice rows cp) (.int k i):=by
 cases hs:slT E t with
 |none=>rfl
 |some e=>
  have hu:=slT_iff.1 hs;simp only[aindexAddr,hu,aidx_inR,inR,idxI,isT];by_cases h0:0≤i
  ·rw[decide_eq_true h0,rowAt_pos h0];by_cases h1:i<rows.length
   ·rw[decide_eq_true h1];have:i.toNat<rows.length:=by omega
    simp only[List.getElem?_eq_getElem this,Bool.and_self,cond_true,beqN];cases(E.und e).isSome<;>rfl
   ·rw[decide_eq_false h1];rw[List.getElem?_eq_none (by omega)];simp
  ·simp[h0,rowAt]
def idxS(E:Env)(e:Option TypeId)(ok:Bool)(r:Option (Nat×List (List AV)))(b j:Nat):Option AV:=match e,r with
 |some e,some r=>bif isT E e&&ok&&decide (r.1=E.sz e)then some (.ptr b j 0)else none
 |_,_=>none
attribute [go_sem] idxS Int.toNat_natCast
@[go_sem] theorem idxA_slice{b o n:Nat}{cp:Option Nat}{i:Int}:aindexAddr E h t (.slice b o n cp) (.int k i)=match slT E t with|some e=>idxS E (some e) (inR i n) (rowO (h b)) b (o+i.toNat)|none=>aindexAddr E h t (.slice b o n cp) (.int k i):=by
 cases hs:slT E t with
 |none=>rfl
 |some e=>
  have hu:=slT_iff.1 hs;simp only[aindexAddr,hu,aidx_inR,idxS,isT];cases hb:h b with
  |none=>cases inR i n<;>simp[rowO]
  |some o=>cases o<;>cases inR i n<;>simp[rowO,beqN];cases(E.und e).isSome<;>simp
def arrT(E:Env)(t:TypeId):Option (Nat×TypeId):=match E.und t with|some (.array m e)=>some (m,e)|_=>none
theorem arrT_iff{m:Nat}{e:TypeId}:arrT E t=some (m,e)→E.und t=some (.array m e):=by
 unfold arrT;intro h;split at h
 ·rename_i heq;cases h;exact heq
 ·cases h
def idxArr(E:Env)(n:Nat)(e:TypeId)(p:AV)(j:Int):Option AV:=
 bif inR j n&&isT E e then match p with
  |.ptr b i o=>some (.ptr b i (o+j.toNat*E.sz e))
  |.iptr cs=>some (.iptr (cs.drop (j.toNat*E.sz e)))
  |_=>none
 else none
@[go_sem] theorem idxArr_ptr(n:Nat)(e:TypeId)(b i o:Nat)(j:Int):idxArr E n e (.ptr b i o) j=bif inR j n&&isT E e then some (.ptr b i (o+j.toNat*E.sz e))else none:=by rfl
@[go_sem] theorem idxArr_iptr(n:Nat)(e:TypeId)(cs:List AV)(j:Int):idxArr E n e (.iptr cs) j=bif inR j n&&isT E e then some (.iptr (cs.drop (j.toNat*E.sz e)))else none:=by rfl
theorem idxA_arr{n:Nat}{e:TypeId}{p:AV}{j:Int}(hu:arrT E t=some (n,e)):aindexAddr E h t p (.int k j)=idxArr E n e p j:=by
 simp only[aindexAddr,arrT_iff hu,aidx_inR,idxArr,isT];cases inR j n with
 |false=>rfl
 |true=>simp only[cond_true,Bool.true_and];cases(E.und e).isSome<;>cases p<;>rfl
@[go_sem] theorem idxA_ptr{b i o:Nat}{j:Int}:aindexAddr E h t (.ptr b i o) (.int k j)=match arrT E t with|some (n,e)=>idxArr E n e (.ptr b i o) j|none=>aindexAddr E h t (.ptr b i o) (.int k j):=by
 cases hu:arrT E t with
 |none=>rfl
 |some x=>exact idxA_arr hu
@[go_sem] theorem idxA_iptr{cs:List AV}{j:Int}:aindexAddr E h t (.iptr cs) (.int k j)=match arrT E t with|some (n,e)=>idxArr E n e (.iptr cs) j|none=>aindexAddr E h t (.iptr cs) (.int k j):=by
 cases hu:arrT E t with
 |none=>rfl
 |some x=>exact idxA_arr hu
@[go_sem] theorem inR_0(n:Nat):inR 0 n=decide (0<n):=inR_nat 0 n
@[go_sem] theorem toNat_0:Int.toNat 0=0:=by rfl
@[go_sem] theorem inR_1(n:Nat):inR 1 n=decide (1<n):=inR_nat 1 n
@[go_sem] theorem toNat_1:Int.toNat 1=1:=by rfl
@[go_sem] theorem inR_2(n:Nat):inR 2 n=decide (2<n):=inR_nat 2 n
@[go_sem] theorem toNat_2:Int.toNat 2=2:=by rfl
@[go_sem] theorem inR_3(n:Nat):inR 3 n=decide (3<n):=inR_nat 3 n
@[go_sem] theorem toNat_3:Int.toNat 3=3:=by rfl
@[go_sem] theorem aload_iptr{cs:List AV}:aload E h t (.iptr cs)=ofCells E t (cs.take (E.sz t)):=by rfl
@[go_sem] theorem aload_ptr{b i o:Nat}:aload E h t (.ptr b i o)=obind (rowO (h b)) λkr=>obind (kr.2[i]?) λr=>ofCells E t ((r.drop o).take (E.sz t)):=by
 unfold aload;cases hb:h b with
 |none=>simp only[hb];rfl
 |some ob=>cases ob<;>simp only[hb,rowO,obind];rename_i rows;cases rows[i]?<;>rfl
@[go_sem] theorem astore_ptr{b i o:Nat}{x:AV}:astore E h t (.ptr b i o) x=obind (rowO (h b)) λkr=>obind (kr.2[i]?) λr=>
 bif decide (x.cells.length=E.sz t)&&isT E t&&Nat.ble (o+x.cells.length) r.length&&x.cells.all AV.storable then some (.set b (.row kr.1 (kr.2.set i (splice r o x.cells))))else none:=by
 unfold astore;cases hb:h b with
 |none=>simp only[hb];rfl
 |some ob=>cases ob<;>simp only[hb,rowO,obind];rename_i rows;cases rows[i]?<;>simp only[isT,beqN]
@[go_sem] theorem anew_T{n:Nat}:anew E n t=obind (E.zero t) λz=>bif decide (0<z.length)then some (.ptr n 0 0,.new (bif decide (t=E.bT)then .trow t true z.length [z]else .row z.length [z]))else none:=by
 have e:decide (t=E.bT)=Nat.beq t E.bT:=by
  cases h:Nat.beq t E.bT with
  |false=>exact decide_eq_false (λe=>by rw[e,Nat.beq_refl]at h;cases h)
  |true=>exact decide_eq_true (Nat.eq_of_beq_eq_true h)
 rw[e];unfold anew;cases E.zero t with
 |none=>rfl
 |some z=>simp only[obind];cases z<;>rfl
@[go_sem] theorem abox_T{n:Nat}{x:AV}:abox n x=bif !x.isJunk&&decide (0<x.cells.length)then some (.ptr n 0 0,.new (.row x.cells.length [x.cells]))else none:=by
 have e:Nat.blt 0 x.cells.length=decide (0<x.cells.length):=by rw[Bool.eq_iff_iff];simp[Nat.blt_eq]
 cases x<;>simp only[abox,e,AV.isJunk,Bool.not_false,Bool.true_and,Bool.not_true,Bool.false_and,cond_false]
theorem bleD(a b:Nat):Nat.ble a b=decide (a≤b):=by rw[Bool.eq_iff_iff];simp[Nat.ble_eq]
theorem bltD(a b:Nat):Nat.blt a b=decide (a<b):=by rw[Bool.eq_iff_iff];simp[Nat.blt_eq]
attribute [go_sem] bleD bltD
@[go_sem] theorem splice_T(r:List AV)(o:Nat)(cs:List AV):splice r o cs=r.take o++cs++r.drop (o+cs.length):=by rfl
def mkOk(E:Env)(e:TypeId)(l c:Int):Bool:=decide (0≤l)&&decide (l≤c)&&decide (c≤281474976710656)&&decide ((E.bytes e:Int)*c≤281474976710656)
@[go_sem] theorem amakeSlice_T{n:Nat}{k':IntKind}{l c:Int}:amakeSlice E n t (.int k l) (.int k' c)=obind (slT E t) λe=>obind (E.zero e) λz=>bif mkOk E e l c&&decide (0<z.length)then
 some (AV.slice n 0 l.toNat (some c.toNat),Eff.new (.row z.length (List.replicate c.toNat z)))else none:=by
 cases hs:slT E t with
 |none=>
  unfold amakeSlice;unfold slT at hs;cases hu:E.und t with
  |none=>rfl
  |some d=>cases d<;>first|rfl|(rw[hu]at hs;cases hs)
 |some e=>have hu:=slT_iff.1 hs;simp only[amakeSlice,hu,obind,mkOk,bltD];cases E.zero e<;>rfl
theorem mkOk_nat{e:TypeId}{m:Nat}(h:m≤1000000000)(hb:E.bytes e≤1000):mkOk E e (m:Int) (m:Int)=true:=by
 unfold mkOk;have h1:E.bytes e*m≤1000*1000000000:=Nat.mul_le_mul hb h;have h2:((E.bytes e:Int)*(m:Int))=((E.bytes e*m:Nat):Int):=by simp
 rw[h2];simp only[Bool.and_eq_true,decide_eq_true_eq];omega
@[go_sem] theorem abuildSlice_T{n m:Nat}{ps:List (Nat×AV)}:abuildSlice E n t m ps=obind (slT E t) λe=>obind (E.zero e) λz=>bif decide (0<z.length)&&decide (m*z.length≤16777216)then
 obind (arows z.length (List.replicate m z) ps) λrows=>some (AV.slice n 0 m (some m),Eff.new (.row z.length rows))else none:=by
 cases hs:slT E t with
 |none=>
  unfold abuildSlice;unfold slT at hs;cases hu:E.und t with
  |none=>rfl
  |some d=>cases d<;>first|rfl|(rw[hu]at hs;cases hs)
 |some e=>
  have hu:=slT_iff.1 hs;simp only[abuildSlice,hu,obind];cases E.zero e with
  |none=>rfl
  |some z=>
   simp only[bltD,bleD];cases decide (0<z.length)&&decide (m*z.length≤16777216)with
   |false=>rfl
   |true=>simp only[cond_true];cases arows z.length (List.replicate m z) ps<;>rfl
@[go_sem] theorem arows_nil(m:Nat)(rows:List (List AV)):arows m rows []=some rows:=by rfl
@[go_sem] theorem arows_cons(m:Nat)(rows:List (List AV))(i:Nat)(v:AV)(r:List (Nat×AV)):arows m rows ((i,v)::r)=bif !v.isJunk&&decide (v.cells.length=m)&&decide (i<rows.length)then arows m (rows.set i v.cells) r else none:=by simp only[arows,beqN,bltD]
@[go_sem] theorem afill_nil(pl:Nat→Option (Nat×Nat))(cs:List AV):afill pl cs []=some cs:=by rfl
@[go_sem] theorem afill_cons(pl:Nat→Option (Nat×Nat))(cs:List AV)(i:Nat)(v:AV)(r:List (Nat×AV)):afill pl cs ((i,v)::r)=obind (pl i) λx=>bif !v.isJunk&&decide (v.cells.length=x.2)&&decide (x.1+x.2≤cs.length)then afill pl (splice cs x.1 v.cells) r else none:=by
 simp only[afill];cases pl i with
 |none=>rfl
 |some x=>simp only[obind,beqN,bleD]
@[go_sem] theorem effH_none{H:Heap}:effH H .none=H:=by rfl
@[go_sem] theorem effH_new{H:Heap}{o:AObj}:effH H (.new o)=H++[some o]:=by rfl
@[go_sem] theorem effH_set{H:Heap}{b:Nat}{o:AObj}:effH H (.set b o)=H.set b (some o):=by rfl
@[go_sem] theorem effH_kill{H:Heap}{b:Nat}{o:AObj}:effH H (.kill b o)=H.set b none++[some o]:=by rfl
@[go_sem] theorem fits_new{n:Nat}{o:AObj}:Eff.fits n (.new o)=true:=by rfl
@[go_sem] theorem fits_set{n b:Nat}{o:AObj}:Eff.fits n (.set b o)=decide (b<n):=bltD b n
@[go_sem] theorem fits_kill{n b:Nat}{o:AObj}:Eff.fits n (.kill b o)=decide (b<n):=bltD b n
attribute [go_sem] List.all_cons List.all_nil List.set_cons_zero List.set_cons_succ List.set_nil List.replicate_zero
end
@[go_sem] theorem cells_int(k:IntKind)(n:Int):AV.cells (.int k n)=[(AV.int k n)]:=by rfl
@[go_sem] theorem storable_int(k:IntKind)(n:Int):AV.storable (.int k n)=true:=by rfl
@[go_sem] theorem junk_int(k:IntKind)(n:Int):AV.isJunk (.int k n)=false:=by rfl
@[go_sem] theorem topRef_int(k:IntKind)(n:Int):topRef (.int k n)=[]:=by rfl
@[go_sem] theorem cells_str(s:List UInt8):AV.cells (.str s)=[(AV.str s)]:=by rfl
@[go_sem] theorem storable_str(s:List UInt8):AV.storable (.str s)=true:=by rfl
@[go_sem] theorem junk_str(s:List UInt8):AV.isJunk (.str s)=false:=by rfl
@[go_sem] theorem cells_nilslice:AV.cells .nilslice=[AV.nilslice]:=by rfl
@[go_sem] theorem storable_nilslice:AV.storable .nilslice=true:=by rfl
@[go_sem] theorem topRef_nilslice:topRef .nilslice=[]:=by rfl
@[go_sem] theorem cells_ptr(b i o:Nat):AV.cells (.ptr b i o)=[(AV.ptr b i o)]:=by rfl
@[go_sem] theorem junk_ptr(b i o:Nat):AV.isJunk (.ptr b i o)=false:=by rfl
@[go_sem] theorem topRef_ptr(b i o:Nat):topRef (.ptr b i o)=[b]:=by rfl
@[go_sem] theorem topRef_iptr(l:List AV):topRef (.iptr l)=[]:=by rfl
@[go_sem] theorem cells_slice(b o n:Nat)(c:Option Nat):AV.cells (.slice b o n c)=[(AV.slice b o n c)]:=by rfl
@[go_sem] theorem storable_slice(b o n:Nat)(c:Option Nat):AV.storable (.slice b o n c)=true:=by rfl
@[go_sem] theorem junk_slice(b o n:Nat)(c:Option Nat):AV.isJunk (.slice b o n c)=false:=by rfl
@[go_sem] theorem topRef_slice(b o n:Nat)(c:Option Nat):topRef (.slice b o n c)=[b]:=by rfl
@[go_sem] theorem cells_islice(r:List (List AV))(c:Option Nat):AV.cells (.islice r c)=[(AV.islice r c)]:=by rfl
@[go_sem] theorem storable_islice(r:List (List AV))(c:Option Nat):AV.storable (.islice r c)=true:=by rfl
@[go_sem] theorem junk_islice(r:List (List AV))(c:Option Nat):AV.isJunk (.islice r c)=false:=by rfl
@[go_sem] theorem topRef_islice(r:List (List AV))(c:Option Nat):topRef (.islice r c)=[]:=by rfl
@[go_sem] theorem cells_map(b:Nat):AV.cells (.map b)=[(AV.map b)]:=by rfl
@[go_sem] theorem storable_map(b:Nat):AV.storable (.map b)=true:=by rfl
@[go_sem] theorem junk_map(b:Nat):AV.isJunk (.map b)=false:=by rfl
@[go_sem] theorem topRef_map(b:Nat):topRef (.map b)=[b]:=by rfl
@[go_sem] theorem cells_agg(l:List AV):AV.cells (.agg l)=l:=by rfl
@[go_sem] theorem junk_agg(l:List AV):AV.isJunk (.agg l)=false:=by rfl
@[go_sem] theorem keys_new(n:Nat)(o:AObj):Eff.keys n (.new o)=[n]:=by rfl
@[go_sem] theorem keys_set(n b:Nat)(o:AObj):Eff.keys n (.set b o)=[b]:=by rfl
@[go_sem] theorem keys_kill(n b:Nat)(o:AObj):Eff.keys n (.kill b o)=[b,n]:=by rfl
@[go_sem] theorem num1_:1+1=2:=by rfl
@[go_sem] theorem num2_:2+1=3:=by rfl
@[go_sem] theorem num3_:3+1=4:=by rfl
@[go_sem] theorem num4_:4+1=5:=by rfl
@[go_sem] theorem num5_:5+1=6:=by rfl
@[go_sem] theorem num6_:6+1=7:=by rfl
@[go_sem] theorem num7_:7+1=8:=by rfl
@[go_sem] theorem num8_:8+1=9:=by rfl
@[go_sem] theorem num9_:9+1=10:=by rfl
@[go_sem] theorem num10_:10+1=11:=by rfl
@[go_sem] theorem num11_:11+1=12:=by rfl
@[go_sem] theorem num12_:12+1=13:=by rfl
@[go_sem] theorem num13_:13+1=14:=by rfl
@[go_sem] theorem num14_:14+1=15:=by rfl
@[go_sem] theorem num15_:15+1=16:=by rfl
@[go_sem] theorem num16_:16+1=17:=by rfl
@[go_sem] theorem num17_:17+1=18:=by rfl
@[go_sem] theorem num18_:18+1=19:=by rfl
@[go_sem] theorem num19_:19+1=20:=by rfl
@[go_sem] theorem num2_2:2+2=4:=by rfl
@[go_sem] theorem num2_3:2+3=5:=by rfl
@[go_sem] theorem num3_2:3+2=5:=by rfl
@[go_sem] theorem num3_3:3+3=6:=by rfl
@[go_sem] theorem num4_2:4+2=6:=by rfl
@[go_sem] theorem num4_7:4+7=11:=by rfl
@[go_sem] theorem num5_2:5+2=7:=by rfl
@[go_sem] theorem num6_2:6+2=8:=by rfl
@[go_sem] theorem num6_3:6+3=9:=by rfl
@[go_sem] theorem num7_2:7+2=9:=by rfl
@[go_sem] theorem num11_7:11+7=18:=by rfl
@[go_sem] theorem num1_2:1+2=3:=by rfl
@[go_sem] theorem num1_3:1+3=4:=by rfl
@[go_sem] theorem rep_lit1{α:Type}(a:α):List.replicate 1 a=[a]:=by rfl
@[go_sem] theorem rep_lit2{α:Type}(a:α):List.replicate 2 a=[a,a]:=by rfl
@[go_sem] theorem rep_lit3{α:Type}(a:α):List.replicate 3 a=[a,a,a]:=by rfl
attribute [go_sem] List.map_cons List.map_nil List.append_nil List.nil_append List.cons_append List.length_cons List.length_nil aggDesc cond_true cond_false Option.map_some Option.map_none List.drop_zero List.drop_succ_cons List.take_succ_cons List.take_zero List.drop_nil List.take_nil List.getElem?_cons_zero List.getElem?_cons_succ List.getElem?_nil Nat.zero_add Nat.add_zero Nat.zero_mul Nat.mul_one decide_true decide_false Bool.and_true Bool.true_and Bool.and_false Bool.false_and Bool.or_true Bool.true_or Bool.or_false Bool.false_or Bool.not_true Bool.not_false Option.bind_some Option.isSome_some guardSlot decide_eq_true_eq
end Go.Ax
/- AxFlat: values that refer to no mutable block: renaming and freezing leave them; calls on them. -/
namespace Go.Ax
mutual
theorem ren_flat(π:Nat→Option Nat):∀(v:AV),refs v=[]→ren π v=v
 |.ptr ..,h=>by simp[refs]at h
 |.slice ..,h=>by simp[refs]at h
 |.map ..,h=>by simp[refs]at h
 |.yfn ..,h=>by simp[refs]at h
 |.func fn fs cs,h=>by simp only[refs,List.append_eq_nil_iff]at h;simp only[ren,renL_flat π fs h.1,renL_flat π cs h.2]
 |.iface t x,h=>by simp only[refs]at h;simp only[ren,ren_flat π x h]
 |.agg cs,h=>by simp only[refs]at h;simp only[ren,renL_flat π cs h]
 |.tuple cs,h=>by simp only[refs]at h;simp only[ren,renL_flat π cs h]
 |.junk,_|.bool _,_|.int ..,_|.str _,_|.nilptr,_|.nilslice,_|.nilmap,_|.nilfunc,_|.nilifc,_|.iptr _,_|.islice ..,_|.imap ..,_|.iset _,_=>rfl
theorem renL_flat(π:Nat→Option Nat):∀(l:List AV),refsL l=[]→renL π l=l
 | [],_=>rfl
 |v::vs,h=>by simp only[refsL,List.append_eq_nil_iff]at h;simp only[renL,ren_flat π v h.1,renL_flat π vs h.2]
end
theorem renM_flat(π:Nat→Option Nat){l:List AV}(h:refsL l=[]):l.map (ren π)=l:=by rw[←renL_eq];exact renL_flat π l h
mutual
theorem frzV_flat(m:Nat)(top:Bool)(d:AV→Option AV):∀(v:AV),refs v=[]→frzV m top d v=some v
 |.ptr ..,h=>by simp[refs]at h
 |.slice ..,h=>by simp[refs]at h
 |.map ..,h=>by simp[refs]at h
 |.yfn ..,h=>by simp[refs]at h
 |.func fn fs cs,h=>by simp only[refs,List.append_eq_nil_iff]at h;simp only[frzV,frzL_flat m top d fs h.1,frzL_flat m top d cs h.2]
 |.iface t x,h=>by simp only[refs]at h;simp only[frzV,frzV_flat m top d x h]
 |.agg cs,h=>by simp only[refs]at h;simp only[frzV,frzL_flat m top d cs h]
 |.tuple cs,h=>by simp only[refs]at h;simp only[frzV,frzL_flat m top d cs h]
 |.junk,_|.bool _,_|.int ..,_|.str _,_|.nilptr,_|.nilslice,_|.nilmap,_|.nilfunc,_|.nilifc,_|.iptr _,_|.islice ..,_|.imap ..,_|.iset _,_=>rfl
theorem frzL_flat(m:Nat)(top:Bool)(d:AV→Option AV):∀(l:List AV),refsL l=[]→frzL m top d l=some l
 | [],_=>rfl
 |v::vs,h=>by simp only[refsL,List.append_eq_nil_iff]at h;simp only[frzL,frzV_flat m top d v h.1,frzL_flat m top d vs h.2]
end
def FlatR(rows:List (List AV)):Prop:=∀r∈rows,refsL r=[]
theorem FlatR.nil:FlatR []:=λr h=>by simp at h
theorem FlatR.cons{r:List AV}{rows:List (List AV)}(h:refsL r=[])(hs:FlatR rows):FlatR (r::rows):=by
 intro x hx;simp only[List.mem_cons]at hx;rcases hx with rfl|hx
 ·exact h
 ·exact hs x hx
theorem FlatR.append{a b:List (List AV)}(h:FlatR a)(k:FlatR b):FlatR (a++b):=by intro x hx;simp only[List.mem_append]at hx;exact hx.elim (h x) (k x)
theorem FlatR.map{α:Type}{f:α→List AV}{l:List α}(h:∀x,refsL (f x)=[]):FlatR (l.map f):=by intro x hx;simp only[List.mem_map]at hx;obtain⟨y,_,rfl⟩:=hx;exact h y
theorem FlatR.replicate{n:Nat}{r:List AV}(h:refsL r=[]):FlatR (List.replicate n r):=by intro x hx;rw[(List.mem_replicate.1 hx).2];exact h
theorem refs_flatR{rows:List (List AV)}(h:FlatR rows):rows.flatMap refsL=[]:=by rw[List.flatMap_eq_nil_iff];exact h
theorem renR_flat(π:Nat→Option Nat){rows:List (List AV)}(h:FlatR rows):rows.map (λr=>r.map (ren π))=rows:=by
 conv=>rhs;rw[←List.map_id rows]
 exact List.map_congr_left λr hr=>renM_flat π (h r hr)
theorem frzR_flat(m:Nat)(d:AV→Option AV):∀{rows:List (List AV)},FlatR rows→frzR m d rows=some rows
 | [],_=>rfl
 |r::rs,h=>by simp only[frzR,frzL_flat m false d r (h r (by simp)),frzR_flat m d (rows:=rs) (λx hx=>h x (by simp[hx]))]
/-! ### slices that are immutable, nil or not -/
def sl(c:Option (Option Nat))(rows:List (List AV)):AV:=match c,rows with
 |none,[]=>.nilslice
 |none,r::rs=>.islice (r::rs) none
 |some c,rows=>.islice rows c
@[go_sem] theorem sl_some(c:Option Nat)(rows:List (List AV)):sl (some c) rows = .islice rows c:=by cases rows<;>rfl
@[go_sem] theorem sl_none_nil:sl none [] = .nilslice:=by rfl
@[go_sem] theorem refs_sl(c:Option (Option Nat))(rows:List (List AV)):refs (sl c rows)=[]:=by cases c<;>cases rows<;>rfl
@[go_sem] theorem ren_sl(π:Nat→Option Nat)(c:Option (Option Nat))(rows:List (List AV)):ren π (sl c rows)=sl c rows:=ren_flat π _ (refs_sl c rows)
@[go_sem] theorem topRef_sl(c:Option (Option Nat))(rows:List (List AV)):topRef (sl c rows)=[]:=by cases c<;>cases rows<;>rfl
@[go_sem] theorem storable_sl(c:Option (Option Nat))(rows:List (List AV)):(sl c rows).storable=true:=by cases c<;>cases rows<;>rfl
section
variable {E:Env}{h:FHeap}{t e:TypeId}{c:Option (Option Nat)}{rows:List (List AV)}{k:IntKind}
@[go_sem] theorem alen_sl(hs:(slT E t).isSome=true):alen E h t (sl c rows)=some (.int .i64 rows.length):=by obtain⟨e,he⟩:=Option.isSome_iff_exists.1 hs;have ht:=slT_iff.1 he;cases c<;>cases rows<;>simp[sl,alen,ht]
@[go_sem] theorem idxA_sl{i:Int}:aindexAddr E h t (sl c rows) (.int k i)=match slT E t with|some e=>idxI E (some e) (rowAt rows i)|none=>aindexAddr E h t (sl c rows) (.int k i):=by
 cases c with
 |some c=>rw[sl_some];exact idxA_islice
 |none=>cases rows with
  |nil=>
   cases hs:slT E t with
   |none=>rfl
   |some e=>
    have hu:=slT_iff.1 hs;simp only[sl,aindexAddr,hu,idxI];cases h2:rowAt [] i with
    |none=>simp
    |some r=>unfold rowAt at h2;split at h2<;>simp at h2
  |cons a l=>exact idxA_islice
end
/-! ### calls -/
@[go_sem] theorem entryF1(a:AV):entryF 0 [a]=[(0,a)]:=by rfl
@[go_sem] theorem entryF2(a b:AV):entryF 0 [a,b]=[(0,a),(1,b)]:=by rfl
@[go_sem] theorem entryF3(a b c:AV):entryF 0 [a,b,c]=[(0,a),(1,b),(2,c)]:=by rfl
@[go_sem] theorem entryF4(a b c d:AV):entryF 0 [a,b,c,d]=[(0,a),(1,b),(2,c),(3,d)]:=by rfl
theorem putBack_nil(n:Nat)(H1:Heap):∀(b:Nat) (H:Heap),putBack [] n H1 b H=H
 |_,[]=>rfl
 |b,o::r=>by simp only[putBack,List.idxOf?_nil,putBack_nil n H1 (b+1) r]
theorem callLoc_flat{run:List AV→Heap→Option (AV×Heap)}{args:List AV}{H:Heap}{v:AV}(ha:refsL args=[])(h:run args []=some (v,[]))(hv:refs v=[]):callLoc run args H=some (v,H,[]):=by
 unfold callLoc;have hr:reach H reachFuel (refsL args) []=[]:=by rw[ha];rfl
 simp only[hr,nodupB,List.all_nil,Bool.and_self,cond_true,renM_flat _ ha,smallH,List.map_nil,h,ren_flat _ v hv,putBack_nil,List.drop_nil,List.append_nil,List.length_nil]
theorem callV_flat{E:Env}{draw:Bool}{call:CallF}{g:FuncId}{fs cs ar args:List AV}{H:Heap}{v:AV}(hx:E.ext g=false)(hf:(E.fn g).isSome=true)(he:fs++ar++cs=args)(ha:refsL args=[])(h:call g args []=some (v,[]))(hv:refs v=[]) :
 callV E draw call (.func (.func g) fs cs) ar H=some (v,H,[]):=by
 simp only[callV,hx,hf,he,cond_true,cond_false,callLoc_flat ha h hv];cases draw
 ·rfl
 ·simp only[Bool.true_and];rw[show Nat.ble H.length H.length=true by rw[Nat.ble_eq];exact Nat.le_refl _];rfl
@[go_sem] theorem refs_int(k:IntKind)(n:Int):refs (.int k n)=[]:=by rfl
@[go_sem] theorem refs_bool(b:Bool):refs (.bool b)=[]:=by rfl
@[go_sem] theorem refs_str(s:List UInt8):refs (.str s)=[]:=by rfl
@[go_sem] theorem refs_islice(r:List (List AV))(c:Option Nat):refs (.islice r c)=[]:=by rfl
@[go_sem] theorem refs_iptr(r:List AV):refs (.iptr r)=[]:=by rfl
@[go_sem] theorem refs_nilslice:refs .nilslice=[]:=by rfl
@[go_sem] theorem refs_nilmap:refs .nilmap=[]:=by rfl
@[go_sem] theorem refs_agg(l:List AV):refs (.agg l)=refsL l:=by rfl
@[go_sem] theorem refs_tuple(l:List AV):refs (.tuple l)=refsL l:=by rfl
@[go_sem] theorem refs_func(f:Fn)(a b:List AV):refs (.func f a b)=refsL a++refsL b:=by rfl
@[go_sem] theorem refs_ptr(b i o:Nat):refs (.ptr b i o)=[b]:=by rfl
@[go_sem] theorem refs_slice(b i o:Nat)(c:Option Nat):refs (.slice b i o c)=[b]:=by rfl
@[go_sem] theorem refs_map(b:Nat):refs (.map b)=[b]:=by rfl
@[go_sem] theorem refsL_nil:refsL []=[]:=by rfl
@[go_sem] theorem refsL_cons(v:AV)(l:List AV):refsL (v::l)=refs v++refsL l:=by rfl
/-! ### what a loop's head keeps -/
/-! ### globals -/
def gV:Option (List AV)→AV|some cs=>.iptr cs|none=>.junk
@[go_sem] theorem opv_glob{E:Env}{F:Frm}(g:Nat):opv E F (.global g)=gV (E.G g):=by simp only[opv,gV];cases E.G g<;>rfl
@[go_sem] theorem gV_some(cs:List AV):gV (some cs) = .iptr cs:=by rfl
end Go.Ax
/- AxBits: words of 64 bits; sums that fit. -/
namespace Go.Ax
def u64(x:BitVec 64):AV:=.int .u64 (x.toNat:Int)
section
variable {E:Env}{t:TypeId}{c:Bool}{x y:BitVec 64}{k:IntKind}
theorem wrap_u64n(x:BitVec 64):IntKind.u64.wrap (x.toNat:Int)=x.toNat:=by have:=x.isLt;exact IntWalk.u64_in _ ⟨by omega,by omega⟩
theorem ofInt_u64(x:BitVec 64):BitVec.ofInt 64 (x.toNat:Int)=x:=by apply BitVec.eq_of_toNat_eq;simp
@[go_sem] theorem and_u64:abin E .and t (u64 x) (u64 y) c=some (u64 (x&&&y)):=by have h1:=ofInt_u64 x;have h2:=ofInt_u64 y;simp only[u64,abin_and,iand,IntKind.bits,h1,h2,wrap_u64n];rfl
@[go_sem] theorem andNot_u64:abin E .andNot t (u64 x) (u64 y) c=some (u64 (x &&& ~~~y)):=by have h1:=ofInt_u64 x;have h2:=ofInt_u64 y;simp only[u64,abin_andNot,iandNot,IntKind.bits,h1,h2,wrap_u64n];rfl
@[go_sem] theorem u64_of{n:Int}(h0:(0≤n)=True)(h1:(n<18446744073709551616)=True):AV.int .u64 n=u64 (BitVec.ofInt 64 n):=by
 have h0:0≤n:=of_eq_true h0;have h1:n<18446744073709551616:=of_eq_true h1;unfold u64
 congr 1
 rw[BitVec.toNat_ofInt];omega
@[go_sem] theorem refs_u64:refs (u64 x)=[]:=by rfl
@[go_sem] theorem cells_u64:(u64 x).cells=[u64 x]:=by rfl
@[go_sem] theorem storable_u64:(u64 x).storable=true:=by rfl
@[go_sem] theorem junk_u64:(u64 x).isJunk=false:=by rfl
@[go_sem] theorem ren_u64(π:Nat→Option Nat):ren π (u64 x)=u64 x:=by rfl
def intT(E:Env)(t:TypeId):Option IntKind:=match E.und t with|some (.int k)=>some k|_=>none
theorem intT_iff{k:IntKind}:intT E t=some k→E.und t=some (.int k):=by
 unfold intT;intro h;split at h
 ·rename_i heq;cases h;exact heq
 ·cases h
def cvI(k:IntKind)(n:Int):AV:=.int k (k.wrap n)
@[go_sem] theorem cvI_i64(n:Int):cvI .i64 n = .int .i64 (IntKind.i64.wrap n):=by rfl
@[go_sem] theorem cvI_u8(n:Int):cvI .u8 n = .int .u8 (IntKind.u8.wrap n):=by rfl
@[go_sem] theorem conv_int{h:FHeap}{s d:TypeId}{k:IntKind}{n:Int}(hs:isT E s=true):aconvH E h s d (.int k n)=match intT E d with|some k'=>some (cvI k' n)|none=>aconvH E h s d (.int k n):=by
 cases hd:intT E d with
 |none=>rfl
 |some k'=>have hu:=intT_iff hd;obtain⟨ds,hds⟩:=Option.isSome_iff_exists.1 (show(E.und s).isSome=true from hs);simp only[aconvH,hu,hds];cases ds<;>simp[aconv,hu,hds,cvI]
theorem w64{n:Int}(h1:-9223372036854775808≤n)(h2:n≤9223372036854775807):IntKind.i64.wrap n=n:=IntWalk.i64_in n ⟨h1,h2⟩
end
end Go.Ax
/- AxWp: what a statement comes to, by a condition on the end. -/
namespace Go.Ax
@[go_sem] theorem keepF_nil(F:Frm):keepF [] F=[]:=by rfl
@[go_sem] theorem keepF_cons(s:Nat)(r:List Nat)(F:Frm):keepF (s::r) F=(s,getF F s)::keepF r F:=by rfl
@[go_sem] theorem oneOf_one(v:AV):oneOf [v]=v:=by rfl
@[go_sem] theorem oneOf_two(v w:AV)(l:List AV):oneOf (v::w::l) = .tuple (v::w::l):=by rfl
@[go_sem] theorem ares_nil{E:Env}{F:Frm}{H:Heap}:aresults E F H []=some []:=by rfl
@[go_sem] theorem ares_tmp{E:Env}{F:Frm}{H:Heap}(t:Nat)(r:List ResultVar):aresults E F H (.tmp t::r)=obind (aresults E F H r) λvs=>some (getF F t::vs):=by simp only[aresults];cases aresults E F H r<;>rfl
@[go_sem] theorem ares_cell{E:Env}{F:Frm}{H:Heap}(a t:Nat)(r:List ResultVar):aresults E F H (.cell a t::r)=obind (aload E (HeapF H) t (getF F a)) λv=>obind (aresults E F H r) λvs=>some (v::vs):=by simp only[aresults];cases aload E (HeapF H) t (getF F a)<;>cases aresults E F H r<;>rfl
abbrev Post:=AExit→Frm→Heap→Prop
def bk(id:Nat)(Q:Post):Post:=λe F H=>match e with|.exit i=>if i=id then Q .normal F H else Q (.exit i) F H|e=>Q e F H
def WpR:Code→Cx→Frm→Heap→Post→Prop
 |.skip,_,F,H,Q=>Q .normal F H
 |.label _,_,F,H,Q=>Q .normal F H
 |.exit id,_,F,H,Q=>Q (.exit id) F H
 |.ret,_,F,H,Q=>Q .ret F H
 |.seq a b,x,F,H,Q=>WpR a x F H λe F H=>match e with|.normal=>WpR b x F H Q|e=>Q e F H
 |.block id b,x,F,H,Q=>WpR b { x with cur:=id } F H (bk id Q)
 |.scope b,x,F,H,Q=>WpR b x F H Q
 |c,x,F,H,Q=>∃e F' H',Ev x c F H (e,F',H')∧Q e F' H'
def Wp(x:Cx)(c:Code)(F:Frm)(H:Heap)(Q:Post):Prop:=WpR c x F H Q
def sq(x:Cx)(b:Code)(Q:Post):Post:=λe F H=>match e with|.normal=>Wp x b F H Q|e=>Q e F H
def cx(E:Env)(M:List Fact)(m N:Nat)(g:FuncId)(cur:Nat):Cx:=⟨E,M,m,N,E.keep g,cur⟩
def lp{σ:Type}(m:Nat)(keep:List Nat)(Fs:σ→Frm)(Hs:σ→Heap)(meas:σ→Nat)(Inv:σ→Prop)(n:Nat)(Q:Post):Post:=λe F H=>match e with|.normal=>∃s,gcD m keep F H=some (Fs s,Hs s)∧meas s<n∧Inv s|e=>Q e F H
def fq(E:Env)(g:FuncId)(m:Nat)(results:List ResultVar)(r:AV×Heap):Post:=λe F H=>match e with|.exit _=>False|_=>∃vs,aresults E F H results=some vs∧finish (E.thaw g) m (oneOf vs) H=some r
def lpJ(m:Nat)(keep:List Nat)(J:Nat→Frm→Heap→Prop)(n:Nat)(Q:Post):Post:=λe F H=>match e with|.normal=>∃F1 H1 n',gcD m keep F H=some (F1,H1)∧n'<n∧J n' F1 H1|e=>Q e F H
@[irreducible] def litV:AV→Option Bool|.bool b=>some b|_=>none
@[go_sem] theorem litV_t:litV (.bool true)=some true:=by unfold litV;rfl
@[go_sem] theorem litV_f:litV (.bool false)=some false:=by unfold litV;rfl
theorem litV_eq{v:AV}{t:Bool}(h:litV v=some t):v = .bool t:=by
 unfold litV at h;split at h
 ·cases h;rfl
 ·cases h
def hs(E:Env)(M:List Fact)(N:Nat):Code→Frm→Heap→Frm→Heap→List LogE→Bool→Prop
 |.region id ops draw,F,H,F1,H1,log,t=>(runD E draw N (sem E M) ops.toList ops.toList [] F H,true)=(some (F1,H1,log),t)
 |.cond c a b,F,H,F1,H1,log,t=>(litV (opv E F c),F,H,[])=(some t,F1,H1,log)
 |_,_,_,_,_,_,_=>False
def sd:Code→List LogE→Bool
 |.region id ops draw,log=>!draw||logOk ops.toList log.length log
 |_,_=>true
def ct(x:Cx):Code→Bool→Frm→Heap→Post→Prop
 |.region id ops draw,t,F,H,Q=>Q .normal F H
 |.cond c a b,t,F,H,Q=>Wp x (bif t then a else b) F H Q
 |_,_,_,_,_=>False
@[go_sem] theorem hs_r(E:Env)(M:List Fact)(N:Nat)(id ops draw F H F1 H1 log t):hs E M N (.region id ops draw) F H F1 H1 log t=((runD E draw N (sem E M) ops.toList ops.toList [] F H,true)=(some (F1,H1,log),t)):=by rfl
@[go_sem] theorem hs_c(E:Env)(M:List Fact)(N:Nat)(c a b F H F1 H1 log t):hs E M N (.cond c a b) F H F1 H1 log t=((litV (opv E F c),F,H,[])=(some t,F1,H1,log)):=by rfl
theorem wx:(∀x id ops draw t F H Q,ct x (.region id ops draw) t F H Q=Q .normal F H)∧(∀x c a b F H Q,ct x (.cond c a b) true F H Q=Wp x a F H Q)∧(∀x c a b F H Q,ct x (.cond c a b) false F H Q=Wp x b F H Q):=⟨λ_ _ _ _ _ _ _ _=>rfl,λ_ _ _ _ _ _ _=>rfl,λ_ _ _ _ _ _ _=>rfl⟩
theorem ww:(∀x F H Q,Wp x .skip F H Q=Q .normal F H)∧(∀x F H Q l,Wp x (.label l) F H Q=Q .normal F H)∧(∀x F H Q i,Wp x (.exit i) F H Q=Q (.exit i) F H)∧(∀x F H Q,Wp x .ret F H Q=Q .ret F H)∧
 (∀x a b F H Q,Wp x (.seq a b) F H Q=Wp x a F H (sq x b Q))∧(∀E M m N g cur i b F H Q,Wp (cx E M m N g cur) (.block i b) F H Q=Wp (cx E M m N g i) b F H (bk i Q))∧(∀x b F H Q,Wp x (.scope b) F H Q=Wp x b F H Q)∧
 (∀x b F H Q,sq x b Q .normal F H=Wp x b F H Q)∧(∀x b F H Q i,sq x b Q (.exit i) F H=Q (.exit i) F H)∧(∀x b F H Q,sq x b Q .ret F H=Q .ret F H)∧
 (∀i F H Q,bk i Q .normal F H=Q .normal F H)∧(∀i F H Q,bk i Q .ret F H=Q .ret F H)∧(∀i F H Q,bk i Q (.exit i) F H=Q .normal F H)∧(∀i j F H Q,(j=i)=False→bk i Q (.exit j) F H=Q (.exit j) F H)∧
 (∀m keep J n Q i F H,lpJ m keep J n Q (.exit i) F H=Q (.exit i) F H)∧(∀m keep J n Q F H,lpJ m keep J n Q .ret F H=Q .ret F H)∧
 (∀(σ:Type) m keep (Fs:σ→Frm) Hs meas Inv n Q i F H,lp m keep Fs Hs meas Inv n Q (.exit i) F H=Q (.exit i) F H)∧(∀(σ:Type) m keep (Fs:σ→Frm) Hs meas Inv n Q F H,lp m keep Fs Hs meas Inv n Q .ret F H=Q .ret F H)∧
 (∀a b:Code,cond true a b=a)∧(∀a b:Code,cond false a b=b)∧
 (∀x id ops draw t F H Q,ct x (.region id ops draw) t F H Q=Q .normal F H)∧(∀x c a b F H Q,ct x (.cond c a b) true F H Q=Wp x a F H Q)∧(∀x c a b F H Q,ct x (.cond c a b) false F H Q=Wp x b F H Q):=
 ⟨λ_ _ _ _=>rfl,λ_ _ _ _ _=>rfl,λ_ _ _ _ _=>rfl,λ_ _ _ _=>rfl,λ_ _ _ _ _ _=>rfl,λ_ _ _ _ _ _ _ _ _ _ _=>rfl,λ_ _ _ _ _=>rfl,λ_ _ _ _ _=>rfl,λ_ _ _ _ _ _=>rfl,λ_ _ _ _ _=>rfl,
  λ_ _ _ _=>rfl,λ_ _ _ _=>rfl,λi F H Q=>by simp only[bk,if_pos],λi j F H Q h=>by simp only[bk,h,if_false],λ_ _ _ _ _ _ _ _=>rfl,λ_ _ _ _ _ _ _=>rfl,λ_ _ _ _ _ _ _ _ _ _ _ _=>rfl,λ_ _ _ _ _ _ _ _ _ _ _=>rfl,λ_ _=>rfl,λ_ _=>rfl,wx⟩
theorem wp_ev:∀(c:Code) {x:Cx} {F:Frm} {H:Heap} {Q:Post},Wp x c F H Q→∃e F' H',Ev x c F H (e,F',H')∧Q e F' H':=by
 intro c
 induction c with
 |skip=>intro x F H Q h;exact⟨_,_,_,Ev.skip,h⟩
 |label l=>intro x F H Q h;exact⟨_,_,_,Ev.label,h⟩
 |exit i=>intro x F H Q h;exact⟨_,_,_,Ev.leave,h⟩
 |ret=>intro x F H Q h;exact⟨_,_,_,Ev.ret,h⟩
 |seq a b iha ihb=>
  intro x F H Q h;obtain⟨e,F',H',h1,h2⟩:=iha h;cases e with
  |normal=>obtain⟨e2,F2,H2,h3,h4⟩:=ihb h2;exact⟨e2,F2,H2,Ev.seq h1 h3,h4⟩
  |exit id=>exact⟨_,_,_,Ev.seq_exit h1,h2⟩
  |ret=>exact⟨_,_,_,Ev.seq_ret h1,h2⟩
 |block id b ih=>
  intro x F H Q h;obtain⟨e,F',H',h1,h2⟩:=ih h;cases e with
  |normal=>exact⟨_,_,_,Ev.block h1,h2⟩
  |exit i=>
   by_cases hi:i=id
   ·subst hi;simp only[bk,if_pos]at h2;exact⟨_,_,_,Ev.block_exit h1,h2⟩
   ·simp only[bk,if_neg hi]at h2;exact⟨_,_,_,Ev.block_on h1 (by simpa using hi),h2⟩
  |ret=>exact⟨_,_,_,Ev.block_ret h1,h2⟩
 |scope b ih=>intro x F H Q h;obtain⟨e,F',H',h1,h2⟩:=ih h;exact⟨e,F',H',Ev.scope h1,h2⟩
 |_=>intro x F H Q h;exact h
theorem xp_mono:∀{c:Code} {x:Cx} {F:Frm} {H:Heap} {Q Q':Post},Wp x c F H Q→(∀e F H,Q e F H→Q' e F H)→Wp x c F H Q':=by
 intro c
 induction c with
 |skip=>intro x F H Q Q' h hq;exact hq _ _ _ h
 |label l=>intro x F H Q Q' h hq;exact hq _ _ _ h
 |exit i=>intro x F H Q Q' h hq;exact hq _ _ _ h
 |ret=>intro x F H Q Q' h hq;exact hq _ _ _ h
 |seq a b iha ihb=>
  intro x F H Q Q' h hq;refine iha (Q:=sq x b Q) (Q':=sq x b Q') h ?_;intro e F H h;cases e with
  |normal=>exact ihb (x:=x) h hq
  |exit id=>exact hq _ _ _ h
  |ret=>exact hq _ _ _ h
 |block id b ih=>
  intro x F H Q Q' h hq;refine ih (Q:=bk id Q) (Q':=bk id Q') h ?_;intro e F H h;cases e with
  |normal=>exact hq _ _ _ h
  |exit i=>
   simp only[bk]at h⊢;split
   ·rename_i hi;rw[if_pos hi]at h;exact hq _ _ _ h
   ·rename_i hi;rw[if_neg hi]at h;exact hq _ _ _ h
  |ret=>exact hq _ _ _ h
 |scope b ih=>intro x F H Q Q' h hq;exact ih (x:=x) h hq
 |_=>intro x F H Q Q' h hq;obtain⟨e,F',H',h1,h2⟩:=h;exact⟨e,F',H',h1,hq _ _ _ h2⟩
section
variable {x:Cx}{F F1:Frm}{H H1:Heap}{Q:Post}
theorem xs{E:Env}{M:List Fact}{m N:Nat}{g:FuncId}{cur:Nat}{id ops draw}{log:List LogE}(h:runD E draw N (sem E M) ops.toList ops.toList [] F H=some (F1,H1,log))(hl:(!draw||logOk ops.toList log.length log)=true)(hq:Q .normal F1 H1):Wp (cx E M m N g cur) (.region id ops draw) F H Q:=⟨_,_,_,Ev.region h hl,hq⟩
theorem xI{E:Env}{M:List Fact}{m N:Nat}{g:FuncId}{cur:Nat}{c a b t}(hc:opv E F c = .bool t)(h:Wp (cx E M m N g cur) (bif t then a else b) F H Q):Wp (cx E M m N g cur) (.cond c a b) F H Q:=by
 cases t
 ·obtain⟨e,F',H',h1,h2⟩:=wp_ev _ h;exact⟨e,F',H',Ev.cond_f hc h1,h2⟩
 ·obtain⟨e,F',H',h1,h2⟩:=wp_ev _ h;exact⟨e,F',H',Ev.cond_t hc h1,h2⟩
theorem xp_lpE{E:Env}{M:List Fact}{m N:Nat}{g:FuncId}{cur:Nat}{keep:List Nat}{b:Code}(hk:E.keep g cur=keep)(J:Nat→Frm→Heap→Prop)(n0:Nat)(h0:∃F1 H1,gcD m keep F H=some (F1,H1)∧J n0 F1 H1)
 (h:∀n F1 H1,J n F1 H1→Wp (cx E M m N g cur) b F1 H1 (lpJ m keep J n Q)):∃r:AExit×Frm×Heap,Q r.1 r.2.1 r.2.2∧EvL (cx E M m N g cur) b F H r:=by
 subst hk;have key:∀n F H F1 H1,gcD m (E.keep g cur) F H=some (F1,H1)→J n F1 H1→∃r:AExit×Frm×Heap,Q r.1 r.2.1 r.2.2∧EvL (cx E M m N g cur) b F H r:=by
  intro n
  induction n using Nat.strongRecOn with
  |ind n ih=>
   intro F H F1 H1 hg hJ;obtain⟨e,F',H',h1,h2⟩:=wp_ev _ (h n F1 H1 hJ);cases e with
   |normal=>obtain⟨F2,H2,n',g1,g2,g3⟩:=h2;obtain⟨r,hr,hl⟩:=ih n' g2 F' H' F2 H2 g1 g3;exact⟨r,hr,EvL.again (x:=cx E M m N g cur) hg h1 hl⟩
   |exit id=>exact⟨(_,_,_),h2,EvL.leave (x:=cx E M m N g cur) hg h1 (λh=>by cases h)⟩
   |ret=>exact⟨(_,_,_),h2,EvL.leave (x:=cx E M m N g cur) hg h1 (λh=>by cases h)⟩
 obtain⟨F1,H1,hg,hJ⟩:=h0;exact key n0 F H F1 H1 hg hJ
theorem xp_lp{E:Env}{M:List Fact}{m N:Nat}{g:FuncId}{cur:Nat}{keep:List Nat}{b:Code}(hk:E.keep g cur=keep)(J:Nat→Frm→Heap→Prop)(n0:Nat)(h0:∃F1 H1,gcD m keep F H=some (F1,H1)∧J n0 F1 H1)
 (h:∀n F1 H1,J n F1 H1→Wp (cx E M m N g cur) b F1 H1 (lpJ m keep J n Q))(hz:frzB keep=false:=by rfl)(hx:nxLoop b=none:=by rfl):Wp (cx E M m N g cur) (.loop b) F H Q:=by
 obtain⟨⟨e,F',H'⟩,hr,hl⟩:=xp_lpE hk J n0 h0 h;exact⟨e,F',H',Ev.loop hx (by rw[←hk]at hz;exact hz) hl,hr⟩
def fz(m:Nat)(Q:Post):Post:=λe F H=>Q e (frzF m H F) (frzH m H)
theorem xp_loop3{E:Env}{M:List Fact}{m N:Nat}{g:FuncId}{cur:Nat}{keep:List Nat}{b:Code}(hk:E.keep g cur=keep){σ:Type}(Fs:σ→Frm)(Hs:σ→Heap)(meas:σ→Nat)(Inv:σ→Prop)(s0:σ)(h0:gcD m keep F H=some (Fs s0,Hs s0))(hi:Inv s0)
 (h:∀s,Inv s→Wp (cx E M m N g cur) b (Fs s) (Hs s) (lp m keep Fs Hs meas Inv (meas s) Q))(hz:frzB keep=false:=by rfl)(hx:nxLoop b=none:=by rfl):Wp (cx E M m N g cur) (.loop b) F H Q:=by
 refine xp_lp hk (λn F1 H1=>∃s,F1=Fs s∧H1=Hs s∧n=meas s∧Inv s) (meas s0) ⟨_,_,h0,s0,rfl,rfl,rfl,hi⟩ ?_ hz hx
 rintro n F1 H1 ⟨s,rfl,rfl,rfl,hs⟩
 refine xp_mono (h s hs) ?_;intro e F' H' h2;cases e with
 |normal=>obtain⟨s',g1,g2,g3⟩:=h2;exact⟨_,_,_,g1,g2,s',rfl,rfl,rfl,g3⟩
 |exit id=>exact h2
 |ret=>exact h2
theorem xp_loop{E:Env}{M:List Fact}{m N:Nat}{g:FuncId}{cur:Nat}{keep:List Nat}(hk:E.keep g cur=keep){b:Code}{σ:Type}(Fs:σ→Frm)(Hs:σ→Heap)(meas:σ→Nat)(Inv:σ→Prop)(s0:σ)(h0:gcD m keep F H=some (Fs s0,Hs s0))(hi:Inv s0)
 (_:∀s,Inv s→gcD m keep (Fs s) (Hs s)=some (Fs s,Hs s))(h:∀s,Inv s→Wp (cx E M m N g cur) b (Fs s) (Hs s) (lp m keep Fs Hs meas Inv (meas s) Q))(hz:frzB keep=false:=by rfl)(hx:nxLoop b=none:=by rfl):Wp (cx E M m N g cur) (.loop b) F H Q:=xp_loop3 hk Fs Hs meas Inv s0 h0 hi h hz hx
theorem lpJ_n{m:Nat}{keep:List Nat}{J:Nat→Frm→Heap→Prop}{n:Nat}(n':Nat)(hn:n'<n)(h:∃F1 H1,gcD m keep F H=some (F1,H1)∧J n' F1 H1):lpJ m keep J n Q .normal F H:=by obtain⟨F1,H1,h1,h2⟩:=h;exact⟨F1,H1,n',h1,hn,h2⟩
theorem lp_n{σ:Type}{m:Nat}{keep:List Nat}{Fs:σ→Frm}{Hs:σ→Heap}{meas:σ→Nat}{Inv:σ→Prop}{n:Nat}(s:σ)(h1:gcD m keep F H=some (Fs s,Hs s))(h2:meas s<n)(h3:Inv s):lp m keep Fs Hs meas Inv n Q .normal F H:=⟨s,h1,h2,h3⟩
end
theorem sem_wp{E:Env}{M:List Fact}{g:FuncId}{args:List AV}{H:Heap}{code:Code}{N:Nat}{results:List ResultVar}{r:AV×Heap}
 (hfn:E.fn g=some ⟨code,N,results⟩)(hno:∀y∈M,y.g≠g)(hN:Nat.ble args.length N=true){m:Nat}(hm:H.length=m)(h:Wp (cx E M m N g 0) code (entryF 0 args) H (fq E g m results r))(hp:E.prim g args=none:=by rfl)(hz:E.zf g=false:=by rfl)(hw:E.raw g=false:=by rfl):sem E M g args H=some r:=by
 subst hm;obtain⟨e,F',H',h1,h2⟩:=wp_ev _ h;obtain⟨v,H2⟩:=r;cases e with
 |normal=>obtain⟨vs,h3,h4⟩:=h2;exact sem_ev hfn hno hN h1 (λ_ h=>by cases h) h3 h4 hp hz hw
 |ret=>obtain⟨vs,h3,h4⟩:=h2;exact sem_ev hfn hno hN h1 (λ_ h=>by cases h) h3 h4 hp hz hw
 |exit id=>exact h2.elim
theorem xa{E:Env}{M:List Fact}{m N:Nat}{g:FuncId}{cur:Nat}{c:Code}{F F1:Frm}{H H1:Heap}{log:List LogE}{t:Bool}{Q:Post}(h:hs E M N c F H F1 H1 log t)(hl:sd c log=true)(k:ct (cx E M m N g cur) c t F1 H1 Q):Wp (cx E M m N g cur) c F H Q:=by
 cases c with
 |region id ops draw=>exact xs (congrArg Prod.fst h) hl k
 |cond c a b=>have h1:opv E F c = .bool t:=litV_eq (congrArg Prod.fst h);have h2:(F,H,([]:List LogE))=(F1,H1,log):=congrArg Prod.snd h;cases h2;exact xI h1 k
 |_=>exact k.elim
theorem gS:(∀a b:Code,(some a).getD b=a)∧(∀l:List ResultVar,(List.toArray l).toList=l):=⟨λ_ _=>rfl,λ_=>rfl⟩
def AExit.fin:AExit→Bool
 |.exit _=>false
 |_=>true
@[go_sem] theorem fin_r:AExit.ret.fin=true:=by rfl
@[go_sem] theorem fin_n:AExit.normal.fin=true:=by rfl
theorem fqb{E:Env}{g:FuncId}{m:Nat}{results:List ResultVar}{r:AV×Heap}{e:AExit}{F:Frm}{H:Heap}(h:(bif e.fin then obind (aresults E F H results) λvs=>finish (E.thaw g) m (oneOf vs) H else none)=some r):fq E g m results r e F H:=by
 cases ha:aresults E F H results with
 |none=>rw[ha]at h;cases e<;>cases h
 |some vs=>
  rw[ha]at h;cases e with
  |exit i=>cases h
  |_=>exact⟨vs,ha,h⟩
theorem sv{E:Env}{M:List Fact}{g:FuncId}{args:List AV}{H:Heap}{r:AV×Heap}(f:Func)(h:Wp (cx E M H.length f.ntmps g 0) (f.body.getD .skip) (entryF 0 args) H (fq E g H.length f.results.toList r))(hfn:E.fn g=some ⟨f.body.getD .skip,f.ntmps,f.results.toList⟩:=by kernel_rfl)
 (hno:(M.all λy=>!Nat.beq y.g g)=true:=by rfl)(hN:Nat.ble args.length f.ntmps=true:=by rfl)(hp:E.prim g args=none:=by rfl)(hz:E.zf g=false:=by rfl)(hw:E.raw g=false:=by rfl):sem E M g args H=some r:=sem_wp hfn (λy hy e=>by
 have:=List.all_eq_true.1 hno y hy;rw[e]at this;simp at this) hN rfl h hp hz hw
end Go.Ax
/- AxTyp: typed abstract values, taken apart. -/
namespace Go.Ax
section
variable {E:Env}{n:Nat}{t e:TypeId}{avs:List AV}
theorem typ_slice{α:Type}{f:α→List AV}{P:α→Prop}(hs:slT E t=some e)(he:∀r,Typ E n e r→∃x,P x∧r=f x)(h:Typ E (n+1) t avs) :
 ∃(c:Option (Option Nat)) (l:List α),avs=[sl c (l.map f)]∧l.length≤maxLen∧∀x∈l,P x:=by
 simp only[Typ,slT_iff.1 hs]at h;rcases h with rfl|⟨rows,cap,rfl,h1,h2,h3⟩
 ·exact⟨none,[],rfl,by simp,by simp⟩
 ·have key:∀rows:List (List AV),(∀r∈rows,r.length=E.sz e∧Typ E n e r)→∃l:List α,rows=l.map f∧∀x∈l,P x:=by
   intro rows
   induction rows with
   |nil=>intro _;exact⟨[],rfl,by simp⟩
   |cons r rs ih=>
    intro hh;obtain⟨x,hx,rfl⟩:=he r (hh r (by simp)).2;obtain⟨l,rfl,hl⟩:=ih (λr hr=>hh r (by simp[hr]));refine⟨x::l,rfl,?_⟩;intro y hy;simp only[List.mem_cons]at hy;rcases hy with rfl|hy
    ·exact hx
    ·exact hl y hy
  obtain⟨l,rfl,hl⟩:=key rows h3;exact⟨some (some cap),l,by rw[sl_some],by simpa using Nat.le_trans h1 h2,hl⟩
theorem typ_int{k:IntKind}(hk:intT E t=some k)(h:Typ E (n+1) t avs):∃i,avs=[.int k i]∧(Lit.int k i).wf=true:=by simpa only[Typ,intT_iff hk]using h
theorem typ_i64(hk:intT E t=some .i64)(h:Typ E (n+1) t avs):∃i:Int,avs=[.int .i64 i]∧ -9223372036854775808≤i∧i<9223372036854775808:=by
 obtain⟨i,h1,h2⟩:=typ_int hk h;simp only[Lit.wf,Bool.and_eq_true,decide_eq_true_eq]at h2;have e1:IntKind.i64.min = -9223372036854775808:=by rfl
 have e2:IntKind.i64.max=9223372036854775807:=by rfl
 rw[e1,e2]at h2;exact⟨i,h1,h2.1,by omega⟩
theorem typ_u8(hk:intT E t=some .u8)(h:Typ E (n+1) t avs):∃i:Nat,avs=[.int .u8 i]∧i<256:=by
 obtain⟨i,h1,h2⟩:=typ_int hk h;simp only[Lit.wf,Bool.and_eq_true,decide_eq_true_eq]at h2;have e1:IntKind.u8.min=0:=by rfl
 have e2:IntKind.u8.max=255:=by rfl
 rw[e1,e2]at h2;exact⟨i.toNat,by rw[h1,Int.toNat_of_nonneg h2.1],by omega⟩
theorem typ_bool(hb:E.und t=some .bool)(h:Typ E (n+1) t avs):∃b,avs=[.bool b]:=by simpa only[Typ,hb]using h
def fieldsT(E:Env)(t:TypeId):Option (List TypeId):=match E.und t with|some (.struct fs)=>some (fs.toList.map (·.type))|_=>none
def TypCat(E:Env)(n:Nat):List TypeId→List AV→Prop
 | [],avs=>avs=[]
 |t::ts,avs=>∃p r,avs=p++r∧Typ E n t p∧TypCat E n ts r
theorem typ_struct{ts:List TypeId}(hf:fieldsT E t=some ts)(h:Typ E (n+1) t avs):TypCat E n ts avs:=by
 unfold fieldsT at hf;split at hf
 case h_2=>cases hf
 rename_i fs hu;cases hf;simp only[Typ,hu]at h;obtain⟨parts,rfl,h1,h2⟩:=h;have key:∀(fs:List Field) (parts:List (List AV)),parts.length=fs.length→(∀(i:Nat) f p,fs[i]?=some f→parts[i]?=some p→p.length=E.sz f.type∧Typ E n f.type p)→TypCat E n (fs.map (·.type)) parts.flatten:=by
  intro fs
  induction fs with
  |nil=>intro parts hl _;have:=List.length_eq_zero_iff.1 hl;subst this;rfl
  |cons f fs ih=>
   intro parts hl hh;cases parts with
   |nil=>simp at hl
   |cons p parts=>exact⟨p,parts.flatten,by simp,(hh 0 f p rfl rfl).2,ih parts (by simpa using hl) (λi f p hf hp=>hh (i+1) f p (by simpa using hf) (by simpa using hp))⟩
 exact key fs.toList parts h1 h2
theorem typ_array{m:Nat}(hf:arrT E t=some (m,e))(h:Typ E (n+1) t avs):TypCat E n (List.replicate m e) avs:=by
 unfold arrT at hf;split at hf
 case h_2=>cases hf
 rename_i m' e' hu;cases hf;simp only[Typ,hu]at h;obtain⟨parts,rfl,h1,h2⟩:=h;subst h1;clear hu
 induction parts with
 |nil=>rfl
 |cons p parts ih=>simp only[List.length_cons,List.replicate_succ];exact⟨p,parts.flatten,by simp,(h2 p (by simp)).2,ih (λq hq=>h2 q (by simp[hq]))⟩
theorem typA_one{a:AV}(hg:aggT E t=some false)(h:TypA E n t a):Typ E n t [a]:=by
 unfold TypA at h;unfold aggT at hg;cases hu:E.und t with
 |none=>rw[hu]at h;exact h.elim
 |some d=>rw[hu]at h hg;simp only[Option.map_some,Option.some.injEq]at hg;simpa[hg]using h
theorem typA_agg{a:AV}(hg:aggT E t=some true)(h:TypA E n t a):∃avs,a = .agg avs∧Typ E n t avs:=by
 unfold TypA at h;unfold aggT at hg;cases hu:E.und t with
 |none=>rw[hu]at h;exact h.elim
 |some d=>rw[hu]at h hg;simp only[Option.map_some,Option.some.injEq]at hg;simpa[hg]using h
end
end Go.Ax
/- AxHeap: calls on, and loops over, heaps of a few known blocks: what is reached, renamed and put back, ar rewrite rules. -/
namespace Go.Ax
@[go_sem] theorem reach_zero(H:Heap)(n:Nat)(acc:List Nat):reach H n [] acc=acc.reverse:=by cases n<;>rfl
theorem reach_cons(H:Heap)(n:Nat)(b:Nat)(todo acc:List Nat):reach H (n+1) (b::todo) acc=bif containsN acc b then reach H n todo acc else reach H n (refsO (HeapF H b)++todo) (b::acc):=by rfl
@[go_sem] theorem reach_step{n:Nat}(hn:(0<n)=True)(H:Heap)(b:Nat)(todo acc:List Nat):reach H n (b::todo) acc=bif containsN acc b then reach H (n-1) todo acc else reach H (n-1) (refsO (HeapF H b)++todo) (b::acc):=by
 obtain⟨m,rfl⟩:∃m,n=m+1:=⟨n-1,by have:=of_eq_true hn;omega⟩
 exact reach_cons H m b todo acc
@[go_sem] theorem containsN_nil(x:Nat):containsN [] x=false:=by rfl
@[go_sem] theorem containsN_cons(a:Nat)(r:List Nat)(x:Nat):containsN (a::r) x=bif decide (a=x)then true else containsN r x:=by simp only[containsN,nbeq,beqN]
@[go_sem] theorem nodupB_nil:nodupB []=true:=by rfl
@[go_sem] theorem nodupB_cons(a:Nat)(r:List Nat):nodupB (a::r)=(!(containsN r a)&&nodupB r):=by rfl
@[go_sem] theorem refsO_row(k:Nat)(rows:List (List AV)):refsO (some (.row k rows))=rows.flatMap refsL:=by rfl
@[go_sem] theorem refsO_map(ks vs:List AV)(bs:List Nat)(c:Nat):refsO (some (.map ks vs bs c))=refsL ks++refsL vs:=by rfl
@[go_sem] theorem idx_nil(b:Nat):List.idxOf? b []=none:=by rfl
@[go_sem] theorem idx_cons(a:Nat)(l:List Nat)(b:Nat):List.idxOf? b (a::l)=bif decide (a=b)then some 0 else(List.idxOf? b l).map (·+ 1):=by rw[List.idxOf?_cons,beqN];cases decide (a=b)<;>rfl
@[go_sem] theorem piOf_ap(σ:List Nat)(b:Nat):piOf σ b=σ.idxOf? b:=by rfl
@[go_sem] theorem backOf_ap(σ:List Nat)(n j:Nat):backOf σ n j=bif decide (j<σ.length)then σ[j]? else some (n+(j-σ.length)):=by simp only[backOf,bltD]
@[go_sem] theorem smallH_nil(H:Heap)(π:Nat→Option Nat):smallH H [] π=[]:=by rfl
@[go_sem] theorem smallH_cons(H:Heap)(b:Nat)(σ:List Nat)(π:Nat→Option Nat):smallH H (b::σ) π=(HeapF H b).map (renObj π)::smallH H σ π:=by rfl
@[go_sem] theorem putBack_nil'(σ:List Nat)(n:Nat)(H1:Heap)(b:Nat):putBack σ n H1 b []=[]:=by rfl
def putOne(σ:List Nat)(n:Nat)(H1:Heap)(o:Option AObj):Option Nat→Option AObj
 |some j=>(HeapF H1 j).map (renObj (backOf σ n))
 |none=>o
@[go_sem] theorem putOne_some(σ:List Nat)(n:Nat)(H1:Heap)(o:Option AObj)(j:Nat):putOne σ n H1 o (some j)=(HeapF H1 j).map (renObj (backOf σ n)):=by rfl
@[go_sem] theorem putOne_none(σ:List Nat)(n:Nat)(H1:Heap)(o:Option AObj):putOne σ n H1 o none=o:=by rfl
@[go_sem] theorem putBack_cons(σ:List Nat)(n:Nat)(H1:Heap)(b:Nat)(o:Option AObj)(r:Heap):putBack σ n H1 b (o::r)=putOne σ n H1 o (σ.idxOf? b)::putBack σ n H1 (b+1) r:=by simp only[putBack];cases σ.idxOf? b<;>rfl
@[go_sem] theorem renObj_row(π:Nat→Option Nat)(k:Nat)(rows:List (List AV)):renObj π (.row k rows) = .row k (rows.map λr=>r.map (ren π)):=by rfl
@[go_sem] theorem renObj_map(π:Nat→Option Nat)(ks vs:List AV)(bs:List Nat)(c:Nat):renObj π (.map ks vs bs c) = .map (ks.map (ren π)) (vs.map (ren π)) bs c:=by rfl
/- renaming a value -/
section
variable (π:Nat→Option Nat)
def renB(f:Nat→AV):Option Nat→AV|some b=>f b|none=>.junk
@[go_sem] theorem renB_some(f:Nat→AV)(b:Nat):renB f (some b)=f b:=by rfl
@[go_sem] theorem renB_none(f:Nat→AV):renB f none = .junk:=by rfl
@[go_sem] theorem ren_ptr(b i o:Nat):ren π (.ptr b i o)=renB (λb=>.ptr b i o) (π b):=by simp only[ren];cases π b<;>rfl
@[go_sem] theorem ren_slice(b i o:Nat)(c:Option Nat):ren π (.slice b i o c)=renB (λb=>.slice b i o c) (π b):=by simp only[ren];cases π b<;>rfl
@[go_sem] theorem ren_map(b:Nat):ren π (.map b)=renB (λb=>.map b) (π b):=by simp only[ren];cases π b<;>rfl
@[go_sem] theorem ren_int(k:IntKind)(n:Int):ren π (.int k n) = .int k n:=by rfl
@[go_sem] theorem ren_bool(b:Bool):ren π (.bool b) = .bool b:=by rfl
@[go_sem] theorem ren_str(s:List UInt8):ren π (.str s) = .str s:=by rfl
@[go_sem] theorem ren_islice(r:List (List AV))(c:Option Nat):ren π (.islice r c) = .islice r c:=by rfl
@[go_sem] theorem ren_iptr(r:List AV):ren π (.iptr r) = .iptr r:=by rfl
@[go_sem] theorem ren_nilslice:ren π .nilslice = .nilslice:=by rfl
@[go_sem] theorem ren_nilmap:ren π .nilmap = .nilmap:=by rfl
@[go_sem] theorem ren_junk:ren π .junk = .junk:=by rfl
@[go_sem] theorem ren_agg(l:List AV):ren π (.agg l) = .agg (l.map (ren π)):=by simp only[ren,renL_eq]
@[go_sem] theorem ren_tuple(l:List AV):ren π (.tuple l) = .tuple (l.map (ren π)):=by simp only[ren,renL_eq]
@[go_sem] theorem ren_func(f:Fn)(a b:List AV):ren π (.func f a b) = .func f (a.map (ren π)) (b.map (ren π)):=by simp only[ren,renL_eq]
@[go_sem] theorem renF_nil:renF π []=[]:=by rfl
@[go_sem] theorem renF_cons(s:Nat)(v:AV)(r:Frm):renF π ((s,v)::r)=(s,ren π v)::renF π r:=by rfl
end
@[go_sem] theorem gcPi_ap(m:Nat)(σ:List Nat)(b:Nat):gcPi m σ b=bif decide (b<m)then some b else(σ.idxOf? b).map (m + ·):=by simp only[gcPi,bltD]
theorem gcD_eq{m:Nat}{keep:List Nat}{F:Frm}{H:Heap}:gcD m keep F H=bif nodupB (gcIds m (keepF keep F) H)&&(gcIds m (keepF keep F) H).all (λb=>decide (m≤b))&&decide (m≤H.length)then
 some (renF (gcPi m (gcIds m (keepF keep F) H)) (keepF keep F),gcH m (gcIds m (keepF keep F) H) H)else none:=by
 have e:(λb=>Nat.ble m b)=λb=>decide (m≤b):=funext λb=>bleD m b;simp only[gcD,e,bleD]
theorem gcIds_eq(m:Nat)(F:Frm)(H:Heap):gcIds m F H=(reach H 1000000 ((H.take m).flatMap refsO++refsL (F.map (·.2))) []).filter λb=>decide (m≤b):=by have e:(λb=>Nat.ble m b)=λb=>decide (m≤b):=funext λb=>bleD m b;simp only[gcIds,reachFuel,e]
@[go_sem] theorem gcH_eq(m:Nat)(σ:List Nat)(H:Heap):gcH m σ H=(H.take m).map (Option.map (renObj (gcPi m σ)))++smallH H σ (gcPi m σ):=by rfl
@[go_sem] theorem filterB{α:Type}(p:α→Bool)(a:α)(l:List α):(a::l).filter p=bif p a then a::l.filter p else l.filter p:=by rw[List.filter_cons];cases p a<;>rfl
attribute [go_sem] List.reverse_cons List.reverse_nil List.filter_nil List.flatMap_cons List.flatMap_nil
theorem callLoc_eq(run:List AV→Heap→Option (AV×Heap))(args:List AV)(H:Heap){σ:List Nat}(hσ:reach H 1000000 (refsL args) []=σ)(hn:nodupB σ=true)(hl:(σ.all λb=>decide (b<H.length))=true)
 {args':List AV}(ha:args.map (ren (piOf σ))=args'){H0:Heap}(hH:smallH H σ (piOf σ)=H0){v:AV}{H1:Heap}(hr:run args' H0=some (v,H1)) :
 callLoc run args H=some (ren (backOf σ H.length) v,putBack σ H.length H1 0 H++(H1.drop σ.length).map (Option.map (renObj (backOf σ H.length))),σ):=by
 have e:(λb=>Nat.blt b H.length)=λb=>decide (b<H.length):=funext λb=>bltD b H.length;unfold callLoc;simp only[reachFuel,hσ,hn,e,hl,Bool.and_self,cond_true,ha,hH,hr]
theorem callV_eq{E:Env}{draw:Bool}{call:CallF}{g:FuncId}{fs cs ar args:List AV}{H:Heap}(hx:E.ext g=false)(hf:(E.fn g).isSome=true)(he:fs++ar++cs=args){v:AV}{H':Heap}{σ:List Nat}
 (h:callLoc (call g) args H=some (v,H',σ))(hl:H'.length=H.length):callV E draw call (.func (.func g) fs cs) ar H=some (v,H',σ):=by
 have hb:Nat.ble H.length H.length=true:=by rw[Nat.ble_eq];exact Nat.le_refl _
 simp only[callV,hx,hf,he,cond_true,cond_false,h,hl,hb,Bool.not_true,Bool.and_false]
/- freezing -/
@[go_sem] theorem obindE_some{α β:Type}(a:α)(f:α→β)(d:β):obindE (some a) f d=f a:=by rfl
@[go_sem] theorem finish_eq{m:Nat}{v:AV}{H:Heap}:finish false m v H=obindE (frzV m true (frzD (HeapF H) m 12) v) (λv'=>some (v',(H.take m).map (Option.map (renObj (piBelow m))))) (some (v,H)):=by simp only[finish,cond_false];cases frzV m true (frzD (HeapF H) m 12) v<;>rfl
section
variable {m:Nat}{top:Bool}{d:AV→Option AV}{h:FHeap}{n:Nat}
@[go_sem] theorem frz_int(k:IntKind)(i:Int):frzV m top d (.int k i)=some (.int k i):=by rfl
@[go_sem] theorem frz_bool(b:Bool):frzV m top d (.bool b)=some (.bool b):=by rfl
@[go_sem] theorem frz_str(s:List UInt8):frzV m top d (.str s)=some (.str s):=by rfl
@[go_sem] theorem frz_islice(r:List (List AV))(c:Option Nat):frzV m top d (.islice r c)=some (.islice r c):=by rfl
@[go_sem] theorem frz_nilslice:frzV m top d .nilslice=some .nilslice:=by rfl
@[go_sem] theorem frz_sl(c:Option (Option Nat))(rows:List (List AV)):frzV m top d (sl c rows)=some (sl c rows):=frzV_flat m top d _ (refs_sl c rows)
@[go_sem] theorem frz_u64(x:BitVec 64):frzV m top d (u64 x)=some (u64 x):=by rfl
@[go_sem] theorem frz_agg(l:List AV):frzV m top d (.agg l)=obind (frzL m top d l) λl=>some (.agg l):=by simp only[frzV];cases frzL m top d l<;>rfl
@[go_sem] theorem frz_tuple(l:List AV):frzV m top d (.tuple l)=obind (frzL m top d l) λl=>some (.tuple l):=by simp only[frzV];cases frzL m top d l<;>rfl
@[go_sem] theorem frz_func(f:Fn)(a b:List AV):frzV m top d (.func f a b)=obind (frzL m top d a) λa=>obind (frzL m top d b) λb=>some (.func f a b):=by simp only[frzV];cases frzL m top d a<;>cases frzL m top d b<;>rfl
@[go_sem] theorem frzL_nil:frzL m top d []=some []:=by rfl
@[go_sem] theorem frzL_cons(v:AV)(l:List AV):frzL m top d (v::l)=obind (frzV m top d v) λv=>obind (frzL m top d l) λl=>some (v::l):=by simp only[frzL];cases frzV m top d v<;>cases frzL m top d l<;>rfl
@[go_sem] theorem frz_slice(b o l:Nat)(c:Option Nat):frzV m top d (.slice b o l c)=bif decide (b<m)then(bif top then some (.slice b o l c)else none)else d (.slice b o l c):=by simp only[frzV,frzP,bltD]
@[go_sem] theorem frz_ptr(b o l:Nat):frzV m top d (.ptr b o l)=bif decide (b<m)then(bif top then some (.ptr b o l)else none)else d (.ptr b o l):=by simp only[frzV,frzP,bltD]
@[go_sem] theorem frz_map(b:Nat):frzV m top d (.map b)=bif decide (b<m)then(bif top then some (.map b)else none)else d (.map b):=by simp only[frzV,frzP,bltD]
@[go_sem] theorem frzD_slice(hn:(0<n)=True)(b o l:Nat)(c:Option Nat):frzD h m n (.slice b o l c)=obind (rowO (h b)) λkr=>bif decide (o+l≤kr.2.length)then obind (frzR m (frzD h m (n-1)) ((kr.2.drop o).take l)) λrs=>some (.islice rs c)else none:=by
 obtain⟨n,rfl⟩:∃k,n=k+1:=⟨n-1,by have:=of_eq_true hn;omega⟩
 simp only[frzD,Nat.add_sub_cancel];cases hb:h b with
 |none=>simp only[hb];rfl
 |some ob=>cases ob<;>simp only[hb,rowO,obind,bleD];rename_i kk rows;cases frzR m (frzD h m n) ((rows.drop o).take l)<;>rfl
@[go_sem] theorem frzD_ptr(hn:(0<n)=True)(b i o:Nat):frzD h m n (.ptr b i o)=obind (rowO (h b)) λkr=>obind (kr.2[i]?) λr=>obind (frzL m false (frzD h m (n-1)) (r.drop o)) λcs=>some (.iptr cs):=by
 obtain⟨n,rfl⟩:∃k,n=k+1:=⟨n-1,by have:=of_eq_true hn;omega⟩
 simp only[frzD,Nat.add_sub_cancel];cases hb:h b with
 |none=>simp only[hb];rfl
 |some ob=>
  cases ob<;>simp only[hb,rowO,obind];rename_i kk rows;cases rows[i]? with
  |none=>rfl
  |some r=>simp only;cases frzL m false (frzD h m n) (r.drop o)<;>rfl
theorem frzR_nil:frzR m d []=some []:=by rfl
theorem frzR_cons(r:List AV)(rs:List (List AV)):frzR m d (r::rs)=obind (frzL m false d r) λr=>obind (frzR m d rs) λrs=>some (r::rs):=by simp only[frzR];cases frzL m false d r<;>cases frzR m d rs<;>rfl
theorem frzR_append(a b:List (List AV)):frzR m d (a++b)=obind (frzR m d a) λa=>obind (frzR m d b) λb=>some (a++b):=by
 induction a with
 |nil=>simp only[List.nil_append,frzR_nil,obind];cases frzR m d b<;>rfl
 |cons x a ih=>
  simp only[List.cons_append,frzR_cons,ih];cases frzL m false d x with
  |none=>rfl
  |some x=>simp only[obind];cases frzR m d a<;>cases frzR m d b<;>rfl
attribute [go_sem] frzR_nil frzR_cons
end
/-! ### append -/
section
variable {E:Env}{h:FHeap}{n:Nat}
@[go_sem] theorem arows_slice(k b o l:Nat)(c:Option Nat):arowsOf h k (.slice b o l c)=obind (rowO (h b)) λkr=>bif decide (kr.1=k)&&decide (o+l≤kr.2.length)then some ((kr.2.drop o).take l)else none:=by
 simp only[arowsOf];cases hb:h b with
 |none=>simp only[hb];rfl
 |some ob=>cases ob<;>simp only[hb,rowO,obind,beqN,bleD]
@[go_sem] theorem arows_islice(k:Nat)(rows:List (List AV))(c:Option Nat):arowsOf h k (.islice rows c)=bif rows.all (λr=>decide (r.length=k))then some rows else none:=by simp only[arowsOf,beqN]
def apT(E:Env)(st xt:TypeId):Option TypeId:=match E.und st,E.und xt with
 |some (.slice e),some dx=>bif isIntDesc dx || !(E.zero e).isSome || !(Nat.blt 0 (E.sz e))then none else some e
 |_,_=>none
def apS(E:Env)(h:FHeap)(n:Nat)(elem:TypeId)(xs:List (List AV)):AV→Option (AV×Eff)
 |.nilslice=>match xs with
  | []=>some (.nilslice,.none)
  |y::ys=>bif roomOk E elem (y::ys).length then some (.slice n 0 (y::ys).length none,.new (.row (E.sz elem) (y::ys)))else none
 |.islice rows cap=>bif rows.all (λr=>r.length==E.sz elem)then match xs with
  | []=>some (.islice rows cap,.none)
  |y::ys=>match cap with
   |some c=>bif Nat.blt c (rows.length+(y::ys).length)&&roomOk E elem (rows.length+(y::ys).length)then
    some (.slice n 0 (rows.length+(y::ys).length) none,.new (.row (E.sz elem) (rows++(y::ys))))else none
   |none=>none
  else none
 |.slice b off len cap=>match h b with
  |some (.row kk rows)=>bif kk==E.sz elem&&Nat.ble (off+len) rows.length then
   match cap with
   |none=>bif roomOk E elem (len+xs.length)&&xs.all (λr=>r.all AV.storable)then
    some (.slice n 0 (len+xs.length) none,.kill b (.row (E.sz elem) (bif Nat.beq (off+len) rows.length then rows.drop off++xs else(rows.drop off).take len++xs)))else none
   |some c=>bif Nat.ble (len+xs.length) c then
    bif Nat.ble (off+len+xs.length) rows.length&&xs.all (λr=>r.all AV.storable)then
     some (.slice b off (len+xs.length) (some c),.set b (.row (E.sz elem) (rows.take (off+len)++xs++rows.drop (off+len+xs.length))))else none
    else bif roomOk E elem (len+xs.length)then
     some (.slice n 0 (len+xs.length) none,.new (.row (E.sz elem) ((rows.drop off).take len++xs)))else none
   else none
  |_=>none
 |_=>none
@[go_sem] theorem aappend_T(st xt:TypeId)(s x:AV):aappend E h n st xt s x=obind (apT E st xt) λe=>obind (arowsOf h (E.sz e) x) λxs=>apS E h n e xs s:=by
 unfold aappend apT;cases E.und st with
 |none=>rfl
 |some d=>cases E.und xt with
  |none=>cases d<;>rfl
  |some dx=>
   cases d<;>try rfl
   rename_i e;simp only;cases(isIntDesc dx || !(E.zero e).isSome || !(Nat.blt 0 (E.sz e)))with
   |true=>rfl
   |false=>
    simp only[cond_false,obind];cases arowsOf h (E.sz e) x with
    |none=>rfl
    |some xs=>cases s<;>rfl
@[go_sem] theorem apS_nil(e:TypeId)(y:List AV)(ys:List (List AV)):apS E h n e (y::ys) .nilslice=bif roomOk E e (y::ys).length then some (.slice n 0 (y::ys).length none,.new (.row (E.sz e) (y::ys)))else none:=by rfl
@[go_sem] theorem apS_grow(e:TypeId)(xs:List (List AV))(b o l:Nat):apS E h n e xs (.slice b o l none)=obind (rowO (h b)) λkr=>
 bif decide (kr.1=E.sz e)then(bif decide (o+l=kr.2.length)then(bif roomOk E e (l+xs.length)&&xs.all (λr=>r.all AV.storable)then some (.slice n 0 (l+xs.length) none,.kill b (.row (E.sz e) (kr.2.drop o++xs)))else none)
  else(bif decide (o+l≤kr.2.length)&&roomOk E e (l+xs.length)&&xs.all (λr=>r.all AV.storable)then some (.slice n 0 (l+xs.length) none,.kill b (.row (E.sz e) ((kr.2.drop o).take l++xs)))else none))else none:=by
 simp only[apS];cases hb:h b with
 |none=>simp only[hb];rfl
 |some ob=>
  cases ob<;>simp only[hb,rowO,obind,beqN,bleD];rename_i kk rows;have e1:Nat.beq (o+l) rows.length=decide (o+l=rows.length):=by rw[nbeq,beqN]
  rw[e1];by_cases h1:o+l=rows.length
  ·rw[decide_eq_true h1,decide_eq_true (by omega:o+l≤rows.length)];cases decide (kk=E.sz e)<;>rfl
  ·rw[decide_eq_false h1];cases decide (kk=E.sz e)<;>cases decide (o+l≤rows.length)<;>rfl
@[go_sem] theorem apS_slice(e:TypeId)(xs:List (List AV))(b o l c:Nat):apS E h n e xs (.slice b o l (some c))=obind (rowO (h b)) λkr=>
 bif decide (kr.1=E.sz e)&&decide (o+l≤kr.2.length)then(bif decide (l+xs.length≤c)then
  (bif decide (o+l+xs.length≤kr.2.length)&&xs.all (λr=>r.all AV.storable)then some (.slice b o (l+xs.length) (some c),.set b (.row (E.sz e) (kr.2.take (o+l)++xs++kr.2.drop (o+l+xs.length))))else none)
  else(bif roomOk E e (l+xs.length)then some (.slice n 0 (l+xs.length) none,.new (.row (E.sz e) ((kr.2.drop o).take l++xs)))else none))else none:=by
 simp only[apS];cases hb:h b with
 |none=>simp only[hb];rfl
 |some ob=>cases ob<;>simp only[hb,rowO,obind,beqN,bleD]
theorem room_ok{e:TypeId}{k:Nat}(hk:k≤1000000000)(hb:E.bytes e≤1000):roomOk E e k=true:=by
 unfold roomOk;rw[decide_eq_true (by omega),Bool.true_and,decide_eq_true_eq]
 calc E.bytes e*(2*k+192)≤1000*(2*1000000000+192):=Nat.mul_le_mul hb (by omega)
  _≤281474976710656:=by decide
end
/- The length of a block's rows, by hand. -/
@[go_sem] theorem tmod_nat(a b:Nat):(a:Int).tmod (b:Int)=((a%b:Nat):Int):=by rfl
@[go_sem] theorem tmod_2(a:Nat):(a:Int).tmod 2=((a%2:Nat):Int):=by rfl
@[go_sem] theorem tmod_3(a:Nat):(a:Int).tmod 3=((a%3:Nat):Int):=by rfl
@[go_sem] theorem tmod_4(a:Nat):(a:Int).tmod 4=((a%4:Nat):Int):=by rfl
@[go_sem] theorem tmod_9(a:Nat):(a:Int).tmod 9=((a%9:Nat):Int):=by rfl
@[go_sem] theorem tmod_10(a:Nat):(a:Int).tmod 10=((a%10:Nat):Int):=by rfl
@[go_sem] theorem tdiv_10(a:Nat):(a:Int).tdiv 10=((a/10:Nat):Int):=by rfl
@[go_sem] theorem tmod_13(a:Nat):(a:Int).tmod 13=((a%13:Nat):Int):=by rfl
theorem wI{n:Nat}(h:n<9223372036854775808):IntKind.i64.wrap (n:Int)=n:=w64 (by omega) (by omega)
theorem wB{n:Nat}(h:n<256):IntKind.u8.wrap (n:Int)=n:=IntWalk.u8_in _ ⟨by omega,by omega⟩
theorem wI1{n:Nat}(h:n<9223372036854775807):IntKind.i64.wrap ((n:Int)+1)=((n+1:Nat):Int):=by rw[w64 (by omega) (by omega)];rfl
theorem piBelow_ap(m b:Nat):piBelow m b=bif decide (b<m)then some b else none:=by simp only[piBelow,bltD]
attribute [go_sem] piBelow_ap
/-! ### bytes to a string -/
def byT(E:Env)(s d:TypeId):Bool:=match E.und s,E.und d with
 |some (.slice e),some .string=>match E.und e with|some (.int .u8)=>true|_=>false
 |_,_=>false
section
variable {E:Env}{h:FHeap}{s d:TypeId}
theorem conv_bytes{x:AV}(hb:byT E s d=true)(hx:∀t,x≠ .str t):aconvH E h s d x=obind (arowsOf h 1 x) λrows=>obind (abytes rows) λl=>some (.str l):=by
 unfold byT at hb;cases hs:E.und s with
 |none=>rw[hs]at hb;cases hb
 |some ds=>
  cases hd:E.und d with
  |none=>rw[hs,hd]at hb;cases ds<;>cases hb
  |some dd=>
   rw[hs,hd]at hb;cases ds<;>first|(cases hb;done)|skip
   rename_i e;cases dd<;>first|(cases hb;done)|skip
   simp only at hb;cases he:E.und e with
   |none=>rw[he]at hb;cases hb
   |some de=>
    rw[he]at hb;cases de<;>first|(cases hb;done)|skip
    rename_i k;cases k<;>first|(cases hb;done)|skip
    unfold aconvH;simp only[hs,hd,he];cases x<;>first|(exact absurd rfl (hx _))|skip
    all_goals
     simp only[obind];cases arowsOf h 1 _ with
     |none=>rfl
     |some rows=>simp only;cases abytes rows<;>rfl
@[go_sem] theorem conv_bslice{b o l:Nat}{c:Option Nat}(hb:byT E s d=true):aconvH E h s d (.slice b o l c)=obind (arowsOf h 1 (.slice b o l c)) λrows=>obind (abytes rows) λl=>some (.str l):=conv_bytes hb (λ_ h=>by cases h)
@[go_sem] theorem abytes_nil:abytes []=some []:=by rfl
@[go_sem] theorem abytes_cons(n:Int)(r:List (List AV)):abytes ([.int .u8 n]::r)=obind (abytes r) λl=>some (UInt8.ofNat n.toNat::l):=by simp only[abytes];cases abytes r<;>rfl
end
@[go_sem] theorem flat_rep{r:List AV}{n:Nat}(h:refsL r=[]):(List.replicate n r).flatMap refsL=[]:=refs_flatR (FlatR.replicate h)
attribute [go_sem] List.length_replicate List.map_replicate List.length_append List.flatMap_append List.map_append
/-! ### calls that only read -/
def FlatO(o:Option AObj):Prop:=∀π,o.map (renObj π)=o
theorem FlatO.row{k:Nat}{rows:List (List AV)}(h:FlatR rows):FlatO (some (.row k rows)):=λπ=>by simp only[Option.map_some,renObj,renR_flat π h]
theorem HeapF_map(f:Nat→Option AObj)(σ:List Nat)(j:Nat):HeapF (σ.map f) j=(σ[j]?).bind f:=by simp only[HeapF,List.getElem?_map];cases σ[j]?<;>simp
theorem putBack_read{σ:List Nat}{n:Nat}{H:Heap}(hf:∀b∈σ,FlatO (HeapF H b)):∀(b:Nat) (H2:Heap),(∀i,H2[i]?=H[b+i]?)→putBack σ n (σ.map (HeapF H)) b H2=H2
 |_,[],_=>rfl
 |b,o::r,hh=>by
  have ih:=putBack_read hf (n:=n) (b+1) r (λi=>by
   have:=hh (i+1);rw[List.getElem?_cons_succ]at this;rw[this]
   congr 1
   omega)
  simp only[putBack,ih]
  congr 1
  cases hx:σ.idxOf? b with
  |none=>rfl
  |some j=>simp only;have hj:=idxOf_get hx;have hm:b∈σ:=List.mem_of_getElem? hj;rw[HeapF_map,hj];simp only[Option.bind_some];rw[hf b hm _];have h0:=hh 0;simp only[List.getElem?_cons_zero,Nat.add_zero]at h0;simp[HeapF,←h0]
theorem callV_read{E:Env}{draw:Bool}{call:CallF}{g:FuncId}{fs cs ar args:List AV}{H:Heap}{v:AV}(σ:List Nat)(hx:E.ext g=false)(hf:(E.fn g).isSome=true)(he:fs++ar++cs=args)
 (hσ:reach H 1000000 (refsL args) []=σ)(hn:nodupB σ=true)(hl:(σ.all λb=>decide (b<H.length))=true)(hfl:∀b∈σ,FlatO (HeapF H b))
 {args':List AV}(ha:args.map (ren (piOf σ))=args'){H0:Heap}(hH:σ.map (HeapF H)=H0)(hr:call g args' H0=some (v,H0))(hv:refs v=[]) :
 callV E draw call (.func (.func g) fs cs) ar H=some (v,H,σ):=by
 have hs:smallH H σ (piOf σ)=H0:=by rw[←hH];unfold smallH;exact List.map_congr_left λb hb=>hfl b hb _
 have hc:=callLoc_eq (call g) args H hσ hn hl ha hs hr;have e1:ren (backOf σ H.length) v=v:=ren_flat _ v hv;have e2:putBack σ H.length H0 0 H=H:=by rw[←hH];exact putBack_read hfl 0 H (λi=>by rw[Nat.zero_add])
 have e3:H0.drop σ.length=[]:=by rw[←hH];simp
 rw[e1,e2,e3,List.map_nil,List.append_nil]at hc;exact callV_eq hx hf he hc rfl
end Go.Ax
/- AxMore: facts that all say 'true'; loops over any states; what a heap's values reach. -/
namespace Go.Ax
theorem sem_factT{E:Env}{M:List Fact}(hT:∀y∈M,y.v = .bool true){x:Fact}(hx:x∈M):sem E M x.g x.args []=some (.bool true,[]):=by have h:sem E M x.g x.args []=some (x.v,[]):=sem_iff.2 (.fact x hx (λy hy _ _=>by rw[hT y hy,hT x hx]));rw[hT x hx]at h;exact h
/-! ### what is reached -/
theorem sum_erase{f:Nat→Nat}:∀{L:List Nat} {b:Nat},b∈L→(L.map f).sum=f b+((L.erase b).map f).sum
 | [],b,h=>by simp at h
 |a::L,b,h=>by
  by_cases hab:a=b
  ·subst hab;simp
  ·have hb:b∈L:=by simpa[Ne.symm hab]using h
   rw[List.erase_cons_tail (by simpa using hab)];simp only[List.map_cons,List.sum_cons,sum_erase hb];omega
structure Reached(H:Heap)(init σ:List Nat):Prop where
 nodup:σ.Nodup
 start:∀b∈init,b∈σ
 closed:∀b∈σ,∀c∈refsO (HeapF H b),c∈σ
 least:∀T:Nat→Prop,(∀b∈init,T b)→(∀b,T b→∀c∈refsO (HeapF H b),T c)→∀b∈σ,T b
theorem reach_go(H:Heap):∀(n:Nat) (todo acc L:List Nat),acc.Nodup→(∀b∈acc,∀c∈refsO (HeapF H b),c∈acc∨c∈todo)→(∀b∈todo,b∈acc∨b∈L)→(∀b∈L,∀c∈refsO (HeapF H b),c∈acc∨c∈L)→
 todo.length+(L.map λb=>(refsO (HeapF H b)).length).sum<n→
 (reach H n todo acc).Nodup∧(∀b∈acc,b∈reach H n todo acc)∧(∀b∈todo,b∈reach H n todo acc)∧(∀b∈reach H n todo acc,∀c∈refsO (HeapF H b),c∈reach H n todo acc)∧
 ∀T:Nat→Prop,(∀b∈acc,T b)→(∀b∈todo,T b)→(∀b,T b→∀c∈refsO (HeapF H b),T c)→∀b∈reach H n todo acc,T b
 |0,todo,acc,L,_,_,_,_,hn=>by omega
 |n+1,[],acc,L,h1,h2,h3,h4,hn=>by
  unfold reach;refine⟨List.pairwise_reverse.2 (h1.imp λh=>Ne.symm h),by simp,by simp,?_,?_⟩
  ·intro b hb c hc;rcases h2 b (by simpa using hb) c hc with h|h
   ·simpa using h
   ·simp at h
  ·intro T t1 t2 t3 b hb;exact t1 b (by simpa using hb)
 |n+1,b::todo,acc,L,h1,h2,h3,h4,hn=>by
  unfold reach;cases hc:containsN acc b with
  |true=>
   have hb:b∈acc:=containsN_iff.1 hc;simp only[cond_true];obtain⟨r1,r2,r3,r4,r5⟩:=reach_go H n todo acc L h1 (λx hx c hcc=>by
    rcases h2 x hx c hcc with h|h
    ·exact .inl h
    ·simp only[List.mem_cons]at h;rcases h with rfl|h
     ·exact .inl hb
     ·exact .inr h) (λx hx=>h3 x (by simp[hx])) h4 (by simp only[List.length_cons]at hn;omega)
   refine⟨r1,r2,?_,r4,?_⟩
   ·intro x hx;simp only[List.mem_cons]at hx;rcases hx with rfl|hx
    ·exact r2 _ hb
    ·exact r3 x hx
   ·intro T t1 t2 t3;exact r5 T t1 (λx hx=>t2 x (by simp[hx])) t3
  |false=>
   have hb:b∉acc:=λh=>by rw[containsN_iff.2 h]at hc;cases hc
   simp only[cond_false];have hbL:b∈L:=(h3 b (by simp)).resolve_left hb;have hs:=sum_erase (f:=λb=>(refsO (HeapF H b)).length) hbL;obtain⟨r1,r2,r3,r4,r5⟩:=reach_go H n (refsO (HeapF H b)++todo) (b::acc) (L.erase b) (List.nodup_cons.2 ⟨hb,h1⟩) (λx hx c hcc=>by
    simp only[List.mem_cons]at hx⊢;rcases hx with rfl|hx
    ·exact .inr (by simp[hcc])
    ·rcases h2 x hx c hcc with h|h
     ·exact .inl (.inr h)
     ·simp only[List.mem_cons]at h;rcases h with rfl|h
      ·exact .inl (.inl rfl)
      ·exact .inr (by simp[h])) (λx hx=>by
    have hx':x∈acc∨x∈L:=by
     rw[List.mem_append]at hx;rcases hx with hx|hx
     ·exact h4 b hbL x hx
     ·exact h3 x (by simp[hx])
    by_cases hxb:x=b
    ·exact .inl (by simp[hxb])
    ·rcases hx' with h|h
     ·exact .inl (by simp[h])
     ·exact .inr ((List.mem_erase_of_ne hxb).2 h)) (λx hx c hcc=>by
    have:=h4 x (List.mem_of_mem_erase hx) c hcc;by_cases hxb:c=b
    ·exact .inl (by simp[hxb])
    ·rcases this with h|h
     ·exact .inl (by simp[h])
     ·exact .inr ((List.mem_erase_of_ne hxb).2 h)) (by
    simp only[List.length_cons]at hn;rw[hs]at hn;simp only[List.length_append];omega)
   refine⟨r1,λx hx=>r2 x (by simp[hx]),?_,r4,?_⟩
   ·intro x hx;simp only[List.mem_cons]at hx;rcases hx with rfl|hx
    ·exact r2 _ (by simp)
    ·exact r3 x (by simp[hx])
   ·intro T t1 t2 t3;refine r5 T ?_ ?_ t3
    ·intro x hx;simp only[List.mem_cons]at hx;rcases hx with rfl|hx
     ·exact t2 _ (by simp)
     ·exact t1 x hx
    ·intro x hx;rw[List.mem_append]at hx;rcases hx with hx|hx
     ·exact t3 b (t2 b (by simp)) x hx
     ·exact t2 x (by simp[hx])
theorem reach_spec{H:Heap}{init:List Nat}(S:List Nat)(h1:∀b∈init,b∈S)(h2:∀b∈S,∀c∈refsO (HeapF H b),c∈S)
 (hn:init.length+(S.map λb=>(refsO (HeapF H b)).length).sum<1000000):Reached H init (reach H 1000000 init []):=by
 obtain⟨r1,_,r3,r4,r5⟩:=reach_go H 1000000 init [] S List.nodup_nil (λb hb=>by simp at hb) (λb hb=>.inr (h1 b hb)) (λb hb c hc=>.inr (h2 b hb c hc)) hn;exact⟨r1,r3,r4,λT t1 t2=>r5 T (λb hb=>by simp at hb) t1 t2⟩
theorem nodupB_of:∀{l:List Nat},l.Nodup→nodupB l=true
 | [],_=>rfl
 |a::l,h=>by
  rw[List.nodup_cons]at h;have hc:containsN l a=false:=by
   cases hc:containsN l a with
   |false=>rfl
   |true=>exact absurd (containsN_iff.1 hc) h.1
  rw[nodupB_cons,hc,nodupB_of h.2];rfl
structure Gc(m:Nat)(F:Frm)(H:Heap)(R:Nat→Prop)(π:Nat→Option Nat)(H1:Heap):Prop where
 low:∀b,b<m→π b=some b
 inj:∀a b c,π a=some c→π b=some c→a=b
 refs:∀b∈refsL (F.map (·.2)),R b
 lows:∀b,b<m→∀c∈refsO (HeapF H b),R c
 closed:∀b,R b→∀c∈refsO (HeapF H b),R c
 least:∀T:Nat→Prop,(∀b∈refsL (F.map (·.2)),T b)→(∀b,b<m→∀c∈refsO (HeapF H b),T c)→(∀b,T b→∀c∈refsO (HeapF H b),T c)→∀b,R b→T b
 here:∀b,R b→∃c,π b=some c
 heap:∀b c,π b=some c→HeapF H1 c=(HeapF H b).map (renObj π)
 len:∀T:List Nat,(∀b,R b→m≤b→b∈T)→H1.length≤m+T.length
theorem low_refs{m:Nat}{H:Heap}{c:Nat}:c∈(H.take m).flatMap refsO↔∃b,b<m∧c∈refsO (HeapF H b):=by
 simp only[List.mem_flatMap];constructor
 ·rintro⟨o,ho,hc⟩
  obtain⟨b,hb⟩:=List.mem_iff_getElem?.1 ho;rw[List.getElem?_take]at hb;split at hb
  case isFalse=>cases hb
  rename_i hlt;refine⟨b,hlt,?_⟩;simp only[HeapF,hb,Option.join_some];exact hc
 ·rintro⟨b,hlt,hc⟩
  cases hb:H[b]? with
  |none=>simp[HeapF,hb,refsO]at hc
  |some o=>refine⟨o,List.mem_iff_getElem?.2 ⟨b,by rw[List.getElem?_take,if_pos hlt,hb]⟩,?_⟩;simpa[HeapF,hb]using hc
theorem len_sub:∀{l T:List Nat},l.Nodup→(∀b∈l,b∈T)→l.length≤T.length
 | [],_,_,_=>by simp
 |a::l,T,hnd,hsub=>by rw[List.nodup_cons]at hnd;have ha:a∈T:=hsub a (by simp);have:=len_sub (l:=l) (T:=T.erase a) hnd.2 (λb hb=>(List.mem_erase_of_ne (λe=>hnd.1 (by rw[←e];exact hb))).2 (hsub b (by simp[hb])));rw[List.length_erase_of_mem ha]at this;have:0<T.length:=List.length_pos_of_mem ha;simp only[List.length_cons];omega
theorem gc_gen{m:Nat}{keep:List Nat}{F:Frm}{H:Heap}(hm:m≤H.length)(S:List Nat)(h1:∀b∈refsL ((keepF keep F).map (·.2)),b∈S)(h2:∀b,b<m→∀c∈refsO (HeapF H b),c∈S)(h3:∀b∈S,∀c∈refsO (HeapF H b),c∈S)
 (hn:((H.take m).flatMap refsO).length+(refsL ((keepF keep F).map (·.2))).length+(S.map λb=>(refsO (HeapF H b)).length).sum<1000000) :
 ∃(R:Nat→Prop) (π:Nat→Option Nat) (H1:Heap),gcD m keep F H=some (renF π (keepF keep F),H1)∧Gc m (keepF keep F) H R π H1∧m≤H1.length:=by
 have hr:=reach_spec (H:=H) (init:=(H.take m).flatMap refsO++refsL ((keepF keep F).map (·.2))) S (λb hb=>by
  rw[List.mem_append]at hb;rcases hb with hb|hb
  ·obtain⟨a,ha,hc⟩:=low_refs.1 hb;exact h2 a ha b hc
  ·exact h1 b hb) h3 (by rw[List.length_append];exact hn)
 generalize hρ:reach H 1000000 ((H.take m).flatMap refsO++refsL ((keepF keep F).map (·.2))) []=ρ at hr;have hσ:gcIds m (keepF keep F) H=ρ.filter λb=>decide (m≤b):=by rw[gcIds_eq,hρ]
 have hnd:(ρ.filter λb=>decide (m≤b)).Nodup:=hr.nodup.filter _;have hmem:∀b,b∈(ρ.filter λb=>decide (m≤b))↔b∈ρ∧m≤b:=λb=>by rw[List.mem_filter];simp
 have hml:(H.take m).length=m:=by simp;omega
 have hlen:(gcH m (ρ.filter λb=>decide (m≤b)) H).length=m+(ρ.filter λb=>decide (m≤b)).length:=by rw[gcH_eq];simp[smallH];omega
 refine⟨(·∈ρ),gcPi m (ρ.filter λb=>decide (m≤b)),gcH m (ρ.filter λb=>decide (m≤b)) H,?_,?_,by rw[hlen];omega⟩
 ·rw[gcD_eq,hσ,nodupB_of hnd,decide_eq_true hm];have:(ρ.filter λb=>decide (m≤b)).all (λb=>decide (m≤b))=true:=by
   rw[List.all_eq_true];intro b hb;simpa using((hmem b).1 hb).2
  rw[this];rfl
 ·have hπ:∀b,gcPi m (ρ.filter λb=>decide (m≤b)) b=if b<m then some b else((ρ.filter λb=>decide (m≤b)).idxOf? b).map (m + ·):=by
   intro b;rw[gcPi_ap];by_cases h:b<m<;>simp[h]
  refine⟨λb hb=>by rw[hπ,if_pos hb],?_,λb hb=>hr.start b (by simp[hb]),λb hb c hc=>hr.start c (by rw[List.mem_append];exact .inl (low_refs.2 ⟨b,hb,hc⟩)),λb hb c hc=>hr.closed b hb c hc,?_,?_,?_,?_⟩
  ·intro a b c ha hb;rw[hπ]at ha hb;split at ha<;>split at hb
   ·cases ha;cases hb;rfl
   ·cases ha;obtain⟨j,hj,e⟩:=map_some_inv hb;omega
   ·cases hb;obtain⟨j,hj,e⟩:=map_some_inv ha;omega
   ·obtain⟨i,hi,e1⟩:=map_some_inv ha;obtain⟨j,hj,e2⟩:=map_some_inv hb;have g1:=idxOf_get hi;have g2:=idxOf_get hj;obtain rfl:i=j:=by omega
    rw[g1]at g2;exact Option.some.inj g2
  ·intro T t1 t2 t3 b hb;refine hr.least T (λx hx=>?_) t3 b hb;rw[List.mem_append]at hx;rcases hx with hx|hx
   ·obtain⟨a,ha,hc⟩:=low_refs.1 hx;exact t2 a ha x hc
   ·exact t1 x hx
  ·intro b hb;rw[hπ];split
   ·exact⟨_,rfl⟩
   ·rename_i h;have hbf:=(hmem b).2 ⟨hb,by omega⟩;obtain⟨j,hj⟩:=List.mem_iff_getElem?.1 hbf;rw[idxOf_of_get hnd hj];exact⟨_,rfl⟩
  ·intro b c hbc;have hbc':=hbc;rw[hπ]at hbc';rw[gcH_eq];split at hbc'
   ·rename_i h;cases hbc';simp only[HeapF];rw[List.getElem?_append_left (by simp;omega),List.getElem?_map,List.getElem?_take,if_pos h];cases H[b]? with
    |none=>rfl
    |some o=>rfl
   ·rename_i h;obtain⟨j,hj,rfl⟩:=map_some_inv hbc';have hg:=idxOf_get hj;simp only[HeapF];rw[List.getElem?_append_right (by simp only[List.length_map,hml];omega)];simp only[List.length_map,hml,Nat.add_sub_cancel_left,smallH,List.getElem?_map,hg,Option.map_some,Option.join_some];rfl
  ·intro T hT;rw[hlen];have:(ρ.filter λb=>decide (m≤b)).length≤T.length:=by
    have hsub:∀b∈(ρ.filter λb=>decide (m≤b)),b∈T:=λb hb=>hT b ((hmem b).1 hb).1 ((hmem b).1 hb).2;exact len_sub hnd hsub
   omega
end Go.Ax
/- AxGrow: grown slices; calls that read one block. -/
namespace Go.Ax
def grV(b:Nat):List (List AV)→AV|[]=>.nilslice|_::rs=>.slice b 0 (rs.length+1) none
def grH(k:Nat):List (List AV)→Heap|[]=>[]|r::rs=>[some (.row k (r::rs))]
theorem grV_nil(b:Nat):grV b [] = .nilslice:=by rfl
theorem grH_nil(k:Nat):grH k []=[]:=by rfl
theorem grV_cons(b:Nat)(r:List AV)(rs:List (List AV)):grV b (r::rs) = .slice b 0 (rs.length+1) none:=by rfl
theorem grH_cons(k:Nat)(r:List AV)(rs:List (List AV)):grH k (r::rs)=[some (.row k (r::rs))]:=by rfl
theorem grV_snoc(b:Nat)(l:List (List AV))(x:List AV):grV b (l++[x]) = .slice b 0 (l.length+1) none:=by cases l<;>simp[grV]
theorem grH_snoc(k:Nat)(l:List (List AV))(x:List AV):grH k (l++[x])=[some (.row k (l++[x]))]:=by cases l<;>simp[grH]
theorem grV_ne(b:Nat){l:List (List AV)}(h:l≠[]):grV b l = .slice b 0 l.length none:=by cases l with|nil=>exact absurd rfl h|cons a r=>rfl
theorem grH_ne(k:Nat){l:List (List AV)}(h:l≠[]):grH k l=[some (.row k l)]:=by cases l with|nil=>exact absurd rfl h|cons a r=>rfl
theorem reach_one{H:Heap}{b:Nat}(hr:refsO (HeapF H b)=[]):reach H 1000000 [b] []=[b]:=by
 have e1:∀n,reach H (n+2) [b] []=[b]:=by intro n;unfold reach;simp only[containsN,cond_false,hr,List.append_nil];unfold reach;rfl
 exact e1 999998
theorem callV_one{E:Env}{draw:Bool}{call:CallF}{g:FuncId}{fs cs ar args:List AV}{H:Heap}{v:AV}{b:Nat}{o:AObj}(hx:E.ext g=false)(hf:(E.fn g).isSome=true)(he:fs++ar++cs=args)
 (hb:HeapF H b=some o)(ho:refsO (some o)=[])(hfl:FlatO (some o))(hargs:refsL args=[b]){args':List AV}(ha:args.map (ren (piOf [b]))=args')(hr:call g args' [some o]=some (v,[some o]))(hv:refs v=[]) :
 callV E draw call (.func (.func g) fs cs) ar H=some (v,H,[b]):=by
 have hlt:b<H.length:=by
  unfold HeapF at hb;cases hh:H[b]? with
  |none=>rw[hh]at hb;cases hb
  |some x=>exact(List.getElem?_eq_some_iff.1 hh).1
 refine callV_read [b] hx hf he (by rw[hargs];exact reach_one (by rw[hb];exact ho)) rfl (by simpa using hlt) ?_ ha (by simp only[List.map_cons,List.map_nil,hb]) hr hv;intro c hc;simp only[List.mem_singleton]at hc;subst hc;rw[hb];exact hfl
theorem refsO_flat{k:Nat}{rows:List (List AV)}(h:FlatR rows):refsO (some (.row k rows))=[]:=by simp only[refsO];exact refs_flatR h
theorem heapF_lt{H:Heap}{b:Nat}{o:AObj}(hb:HeapF H b=some o):b<H.length:=by
 unfold HeapF at hb;cases hh:H[b]? with
 |none=>rw[hh]at hb;cases hb
 |some x=>exact(List.getElem?_eq_some_iff.1 hh).1
theorem set_same{H:Heap}{b:Nat}{o:AObj}(hb:HeapF H b=some o):H.set b (some o)=H:=by have hlt:=heapF_lt hb;unfold HeapF at hb;rw[List.getElem?_eq_getElem hlt]at hb;simp only[Option.join_some]at hb;rw[←hb];exact List.set_getElem_self hlt
theorem putBack_one(b n:Nat)(o:Option AObj)(ho:∀π,o.map (renObj π)=o):∀(s:Nat) (H:Heap),s≤b→putBack [b] n [o] s H=H.set (b-s) o
 |s,[],_=>by simp[putBack]
 |s,x::H,hs=>by
  simp only[putBack];by_cases hsb:s=b
  ·subst hsb;have e:([s]:List Nat).idxOf? s=some 0:=by simp[List.idxOf?_cons]
   have hrest:∀(t:Nat) (H:Heap),s<t→putBack [s] n [o] t H=H:=by
    intro t H
    induction H generalizing t with
    |nil=>intro _;rfl
    |cons y H ih=>
     intro ht;have e2:([s]:List Nat).idxOf? t=none:=by simp[List.idxOf?_cons];omega
     simp only[putBack,e2,ih (t+1) (by omega)]
   simp only[e,hrest (s+1) H (by omega),Nat.sub_self,List.set_cons_zero]
   congr 1
   exact ho _
  ·have e:([b]:List Nat).idxOf? s=none:=by simp[List.idxOf?_cons];omega
   have e2:b-s=(b-(s+1))+1:=by omega
   rw[e2,List.set_cons_succ];simp only[e,putBack_one b n o ho (s+1) H (by omega)]
theorem callV_one'{E:Env}{draw:Bool}{call:CallF}{g:FuncId}{fs cs ar args:List AV}{H:Heap}{v v':AV}{b:Nat}{o o':AObj}(hx:E.ext g=false)(hf:(E.fn g).isSome=true)(he:fs++ar++cs=args)
 (hb:HeapF H b=some o)(ho:refsO (some o)=[])(hfl:FlatO (some o))(hargs:refsL args=[b]){args':List AV}(ha:args.map (ren (piOf [b]))=args')(hr:call g args' [some o]=some (v,[some o']))(hfl':FlatO (some o'))(hv:ren (backOf [b] H.length) v=v') :
 callV E draw call (.func (.func g) fs cs) ar H=some (v',H.set b (some o'),[b]):=by
 have hlt:=heapF_lt hb;have hc:=callLoc_eq (call g) args H (σ:=[b]) (by rw[hargs];exact reach_one (by rw[hb];exact ho)) rfl (by simpa using hlt) ha (H0:=[some o]) (by simp only[smallH,List.map_cons,List.map_nil,hb];congr 1;exact hfl _) hr;rw[hv,putBack_one b _ _ hfl' 0 H (Nat.zero_le _)]at hc;simp only[Nat.sub_zero,List.drop_succ_cons,List.drop_zero,List.map_nil,List.append_nil,List.length_cons,List.length_nil]at hc;exact callV_eq hx hf he hc (by simp)
theorem ren_slice1(b o l:Nat)(c:Option Nat):ren (piOf [b]) (.slice b o l c) = .slice 0 o l c:=by simp[ren,piOf]
theorem back_slice1(b o n l:Nat)(c:Option Nat):ren (backOf [b] n) (.slice 0 o l c) = .slice b o l c:=by rfl
/-! ### slices of slices -/
def inB(i:Int)(n:Nat):Bool:=decide (0≤i)&&decide (i≤(n:Int))
@[go_sem] theorem inB_nat(a n:Nat):inB (a:Int) n=decide (a≤n):=by unfold inB;rw[decide_eq_true (by omega),Bool.true_and,Bool.eq_iff_iff,decide_eq_true_eq,decide_eq_true_eq];omega
@[go_sem] theorem inB_0(n:Nat):inB 0 n=true:=by simp[inB]
theorem abound_i{k:IntKind}{i:Int}{n d:Nat}:abound (some (.int k i)) n d=bif inB i n then some i.toNat else none:=by rfl
attribute [go_sem] Option.map_some Option.map_none
section
variable {E:Env}{h:FHeap}{t:TypeId}
theorem aslice_T{x:AV}{lo hi mx:Option AV}(hs:slT E t=none)(hx:∀s,x≠ .str s)(hy:∀cs,x≠ .iptr cs:=by intro _ h;cases h):aslice E h t x lo hi mx=none:=by
 unfold aslice;unfold slT at hs;cases hu:E.und t with
 |none=>rfl
 |some d=>rw[hu]at hs;cases d<;>first|(cases hs;done)|(cases x<;>first|rfl|exact absurd rfl (hx _)|exact absurd rfl (hy _))
@[go_sem] theorem aslice_nil3{k k':IntKind}{i j:Int}:aslice E h t .nilslice none (some (.int k i)) (some (.int k' j))=obind (slT E t) λe=>bif isT E e&&inB j 0&&inB i j.toNat then some .nilslice else none:=by
 cases hs:slT E t with
 |none=>exact aslice_T hs (λ_ h=>by cases h)
 |some e=>simp only[aslice,slT_iff.1 hs,obind,abound_i,isT];cases(E.und e).isSome<;>cases inB j 0<;>first|rfl|(simp only[cond_true,Bool.true_and];cases inB i j.toNat<;>rfl)
@[go_sem] theorem aslice_sl3{b o n:Nat}{c:Option Nat}{k k':IntKind}{i j:Int}:aslice E h t (.slice b o n c) none (some (.int k i)) (some (.int k' j))=obind (slT E t) λe=>obind (rowO (h b)) λkr=>bif isT E e&&decide (kr.1=E.sz e)&&inB j (capAtLeast n c)&&inB i j.toNat then some (.slice b o i.toNat (some j.toNat))else none:=by
 cases hs:slT E t with
 |none=>exact aslice_T hs (λ_ h=>by cases h)
 |some e=>
  simp only[aslice,slT_iff.1 hs,obind,abound_i,isT];cases hb:h b with
  |none=>cases(E.und e).isSome<;>rfl
  |some ob=>cases ob with
   |map=>cases(E.und e).isSome<;>rfl
   |siter=>cases(E.und e).isSome<;>rfl
   |uset=>cases(E.und e).isSome<;>rfl
   |miter=>cases(E.und e).isSome<;>rfl
   |yloop=>cases(E.und e).isSome<;>rfl
   |trow=>cases(E.und e).isSome<;>rfl
   |row kk rows=>simp only[rowO,beqN];cases(E.und e).isSome<;>cases decide (kk=E.sz e)<;>cases inB j (capAtLeast n c)<;>first|rfl|(simp only[cond_true,Bool.true_and];cases inB i j.toNat<;>rfl)
end
attribute [go_sem] Nat.le_refl Int.toNat_natCast
@[go_sem] theorem take_map_len{α β:Type}(f:α→β)(l:List α):(l.map f).take l.length=l.map f:=by rw[←List.length_map (f:=f),List.take_length]
attribute [go_sem] List.take_length
@[go_sem] theorem capAtLeast_none(n:Nat):capAtLeast n none=n:=by rfl
end Go.Ax
/- AxMelt: calls over flat arguments that return a pointer to a block of their own. -/
namespace Go.Ax
theorem finish_raw{m:Nat}(hm:(m=0)=False){v:AV}{H:Heap}:finish true m v H=some (v,H):=by
 cases m with
 |zero=>simp at hm
 |succ n=>rfl
attribute [go_sem] finish_raw
@[go_sem] theorem melt_ptr{m b i o:Nat}{H:Heap}:melt m (.ptr b i o) H=bif decide (m≤b)then obind (rowO (HeapF H b)) λkr=>obind (frzT m (frzD (without (HeapF H) b) m 12) kr.2) λrows'=>some (.ptr m i o,(H.take m).map (Option.map (renObj (piBelow m)))++[some (.row kr.1 rows')])else none:=by
 have e:Nat.ble m b=decide (m≤b):=by rw[Bool.eq_iff_iff,Nat.ble_eq,decide_eq_true_eq]
 simp only[melt,e];cases decide (m≤b)with
 |false=>rfl
 |true=>
  simp only[cond_true];cases h:HeapF H b with
  |none=>rfl
  |some ob=>cases ob with
   |row k rows=>simp only[rowO,obind];cases frzT m (frzD (without (HeapF H) b) m 12) rows<;>rfl
   |map=>rfl
   |siter=>rfl
   |uset=>rfl
   |miter=>rfl
   |yloop=>rfl
   |trow=>rfl
@[go_sem] theorem melt_tup{m:Nat}{l:List AV}{H:Heap}:melt m (.tuple l) H=some (.tuple l,H):=by rfl
@[go_sem] theorem frzT_nil{m:Nat}{d:AV→Option AV}:frzT m d []=some []:=by rfl
@[go_sem] theorem frzT_cons{m:Nat}{d:AV→Option AV}{r:List AV}{rs:List (List AV)}:frzT m d (r::rs)=obind (frzL m true d r) λr'=>obind (frzT m d rs) λrs'=>some (r'::rs'):=by
 simp only[frzT];cases frzL m true d r with
 |none=>rfl
 |some r'=>cases frzT m d rs<;>rfl
@[go_sem] theorem without_at{h:FHeap}{b x:Nat}:without h b x=bif decide (x=b)then none else h x:=by
 unfold without;by_cases hx:x=b
 ·subst hx;rw[show Nat.beq x x=true from Nat.beq_refl x,decide_eq_true rfl]
 ·rw[decide_eq_false hx];cases hq:Nat.beq x b with
  |false=>rfl
  |true=>exact absurd (Nat.eq_of_beq_eq_true hq) hx
end Go.Ax
/- AxCpy: copy and clear, ar rewrite rules. -/
namespace Go.Ax
section
variable {E:Env}{draw:Bool}{call:CallF}{F:Frm}{H:Heap}{h:FHeap}
end
section
variable {E:Env}{t:TypeId}{c:Bool}{x y:BitVec 64}
end
section
variable {E:Env}{h:FHeap}{t:TypeId}
end
end Go.Ax
/- AxFz: a loop that freezes at its end, as rewrite rules. -/
namespace Go.Ax
@[go_sem] theorem refs_junk:refs .junk=[]:=by rfl
end Go.Ax
/- AxMl: a loop over a set of numbers: as a condition on its end. -/
namespace Go.Ax
section
variable {E:Env}{M:List Fact}{m N:Nat}{g:FuncId}{cur:Nat}{keep:List Nat}{id:Nat}{ops:Array Oper}{it nx:Nat}{ors:List Oper}{rest:Code}
end
end Go.Ax
/- AxSetS: sets of numbers, as rewrite rules. -/
namespace Go.Ax
section
variable {E:Env}{h:FHeap}{t:TypeId}{draw:Bool}{call:CallF}{F:Frm}{H:Heap}
@[go_sem] theorem newMap_eq:newMap E t=bif usetT E t then .uset []else .map [] [] [] 0:=by rfl
@[go_sem] theorem isMapT_map(k e:TypeId):isMapT (some (.map k e))=true:=by rfl
/-! lookup -/
def lookU(E:Env)(t:TypeId)(ks:List Int)(o:Bool):AV→Option AV
 |.int .i64 i=>bif usetT E t then some (bif o then .tuple [.bool (ks.contains i),.bool (ks.contains i)]else .bool (ks.contains i))else none
 |_=>none
def lookM(E:Env)(h:FHeap)(t:TypeId)(b:Nat)(k:AV)(o:Bool):Option AObj→Option AV
 |some (.uset ks)=>lookU E t ks o k
 |_=>alookup E h t (.map b) k o
/-! update -/
def updU(E:Env)(t:TypeId)(b:Nat)(ks:List Int):AV→AV→Option Eff
 |.int .i64 i,.bool q=>bif usetT E t&&q then some (.set b (.uset (bif ks.contains i then ks else insZ i ks)))else none
 |_,_=>none
def updM(E:Env)(h:FHeap)(t:TypeId)(b:Nat)(k v:AV):Option AObj→Option Eff
 |some (.uset ks)=>updU E t b ks k v
 |_=>amapUpdate E h t (.map b) k v
@[go_sem] theorem updM_m(b:Nat)(k v:AV)(ks vs:List AV)(bs:List Nat)(cl:Nat):updM E h t b k v (some (.map ks vs bs cl))=amapUpdate E h t (.map b) k v:=by rfl
theorem apairs_none{b:Nat}{k:AV}(hb:∀ks vs bs cl,h b≠some (.map ks vs bs cl)):apairs E h t (.map b) k=none:=by
 unfold apairs;split
 ·rename_i kt _ b' hu he;cases he;rw[cond_eq_ite];split
  ·split
   ·rename_i hh;exact absurd hh (hb _ _ _ _)
   ·rfl
  ·rfl
 ·rfl
@[go_sem] theorem upd_mb(b:Nat)(k v:AV):oor (amapUpdate E h t (.map b) k v) (aupdS E h t (.map b) k v)=updM E h t b k v (h b):=by
 have none_case:(∀ks,h b≠some (.uset ks))→aupdS E h t (.map b) k v=none:=by
  intro hn;unfold aupdS;split
  ·rename_i b' i q he;cases he;split
   ·rename_i ks hh;exact absurd hh (hn ks)
   ·rfl
  ·rfl
 cases hb:h b with
 |none=>rw[none_case (by rw[hb];simp)];simp only[updM];cases amapUpdate E h t (.map b) k v<;>rfl
 |some ob=>
  cases ob with
  |uset ks=>
   have:amapUpdate E h t (.map b) k v=none:=by unfold amapUpdate;rw[apairs_none (by rw[hb];simp)]
   rw[this];simp only[oor,updM];unfold updU aupdS;cases k<;>first|rfl|(rename_i kk i;cases kk<;>first|rfl|(cases v<;>first|rfl|(simp only[hb])))
  |_=>rw[none_case (by rw[hb];simp)];simp only[updM];cases amapUpdate E h t (.map b) k v<;>rfl
/-! delete -/
/-! length -/
def lenM:Option AObj→Option AV
 |some (.map ks _ _ _)=>some (.int .i64 ks.length)
 |some (.uset ks)=>some (.int .i64 ks.length)
 |_=>none
@[go_sem] theorem lenM_u(ks:List Int):lenM (some (.uset ks))=some (.int .i64 ks.length):=by rfl
@[go_sem] theorem alen_mb{b:Nat}(hs:isMapT (E.und t)=true):alen E h t (.map b)=lenM (h b):=by
 obtain⟨x,y,hu⟩:=isMapT_iff hs;simp only[alen,hu];cases h b with
 |none=>rfl
 |some ob=>cases ob<;>rfl
/-! ranging -/
/-! frames and heaps -/
variable (π:Nat→Option Nat)
@[go_sem] theorem refsO_uset(ks:List Int):refsO (some (.uset ks))=[]:=by rfl
@[go_sem] theorem renObj_uset(ks:List Int):renObj π (.uset ks) = .uset ks:=by rfl
end
def frzMp(h:FHeap)(m n:Nat):Option AObj→Option AV
 |some (.uset ks)=>some (.iset ks)
 |some (.map ks vs bs cl)=>obind (frzL m false (frzD h m n) ks) λks=>obind (frzL m false (frzD h m n) vs) λvs=>some (.imap ks vs bs cl)
 |_=>none
@[go_sem] theorem frzMp_m(h:FHeap)(m n:Nat)(ks vs:List AV)(bs:List Nat)(cl:Nat):frzMp h m n (some (.map ks vs bs cl))=obind (frzL m false (frzD h m n) ks) λks=>obind (frzL m false (frzD h m n) vs) λvs=>some (.imap ks vs bs cl):=by rfl
@[go_sem] theorem frzD_mapb{h:FHeap}{m n:Nat}(hn:(0<n)=True)(b:Nat):frzD h m n (.map b)=frzMp h m (n-1) (h b):=by
 obtain⟨n,rfl⟩:∃k,n=k+1:=⟨n-1,by have:=of_eq_true hn;omega⟩
 simp only[frzD,Nat.add_sub_cancel];cases h b with
 |none=>rfl
 |some ob=>cases ob<;>simp only[frzMp,obind];rename_i ks vs bs cl;cases frzL m false (frzD h m n) ks<;>cases frzL m false (frzD h m n) vs<;>rfl
end Go.Ax
/- AxTwo: slices of slices that grow: one block of rows, a block for each that is not empty. -/
namespace Go.Ax
theorem heapF_lo{H L:Heap}{c:Nat}(h:(c<H.length)=True):HeapF (H++L) c=HeapF H c:=by unfold HeapF;rw[List.getElem?_append_left (of_eq_true h)]
theorem heapF_hi{H L:Heap}(i:Nat):HeapF (H++L) (H.length+i)=HeapF L i:=by unfold HeapF;rw[List.getElem?_append_right (by omega)];congr 1;rw[Nat.add_sub_cancel_left]
theorem heapF_hi0{H L:Heap}:HeapF (H++L) H.length=HeapF L 0:=heapF_hi 0
theorem heapF_set{H:Heap}{a c:Nat}{o:Option AObj}:HeapF (H.set a o) c=if a=c∧a<H.length then o else HeapF H c:=by
 unfold HeapF;rw[List.getElem?_set];by_cases h:a=c
 ·subst h;by_cases hl:a<H.length
  ·simp[hl]
  ·simp[hl]
 ·simp[h]
theorem heapF_set_ne{H:Heap}{a c:Nat}{o:Option AObj}(h:a≠c):HeapF (H.set a o) c=HeapF H c:=by rw[heapF_set,if_neg (λe=>h e.1)]
theorem heapF_setF{H:Heap}{a c:Nat}{o:Option AObj}(h:(a=c)=False):HeapF (H.set a o) c=HeapF H c:=heapF_set_ne (λe=>h▸e)
theorem heapF_set_eq{H:Heap}{a:Nat}{o:Option AObj}(h:a<H.length):HeapF (H.set a o) a=o:=by rw[heapF_set,if_pos ⟨rfl,h⟩]
def slV(b:Nat)(c:Option Nat):List (List AV)→AV|[]=>.nilslice|_::rs=>.slice b 0 (rs.length+1) c
theorem slV_none(b:Nat)(f:List (List AV)):slV b none f=grV b f:=by cases f<;>rfl
theorem set_hi{H L:Heap}{o:Option AObj}(i:Nat):(H++L).set (H.length+i) o=H++L.set i o:=by rw[List.set_append_right _ _ (by omega),Nat.add_sub_cancel_left]
theorem set_hi0{H L:Heap}{o:Option AObj}:(H++L).set H.length o=H++L.set 0 o:=set_hi 0
theorem set_lo{H L:Heap}{o:Option AObj}{a:Nat}(h:(a<H.length)=True):(H++L).set a o=H.set a o++L:=List.set_append_left _ _ (of_eq_true h)
theorem lt_add1(n:Nat):(n<n+1)=True:=by simp
theorem lt_add_s{a n k:Nat}(h:(a<n)=True):(a<n+k)=True:=by have:=of_eq_true h;simp;omega
def rows2(ids:Nat→Nat)(cp:Nat→Option Nat)(fo:List (List (List AV))):List (List AV):=fo.mapIdx λj f=>[slV (ids j) (cp j) f]
structure Two(H:Heap)(b k:Nat)(ids:Nat→Nat)(cp:Nat→Option Nat)(fo:List (List (List AV))):Prop where
 top:HeapF H b=some (.row 1 (rows2 ids cp fo))
 sub:∀(j:Nat) (f:List (List AV)),fo[j]?=some f→f≠[]→HeapF H (ids j)=some (.row k f)∧ids j≠b
 inj:∀(i j:Nat) (f g:List (List AV)),fo[i]?=some f→fo[j]?=some g→f≠[]→g≠[]→ids i=ids j→i=j
 flat:∀f∈fo,FlatR f
theorem rows2_get{ids:Nat→Nat}{cp:Nat→Option Nat}{fo:List (List (List AV))}{j:Nat}{f:List (List AV)}(h:fo[j]?=some f):(rows2 ids cp fo)[j]?=some [slV (ids j) (cp j) f]:=by unfold rows2;rw[List.getElem?_mapIdx,h];rfl
theorem rows2_len(ids:Nat→Nat)(cp:Nat→Option Nat)(fo:List (List (List AV))):(rows2 ids cp fo).length=fo.length:=by unfold rows2;simp
theorem slV_refs(b:Nat)(c:Option Nat){f:List (List AV)}:refs (slV b c f)=if f=[]then[]else[b]:=by cases f<;>rfl
theorem rows2_refs{ids:Nat→Nat}{cp:Nat→Option Nat}{fo:List (List (List AV))}{c:Nat}:c∈(rows2 ids cp fo).flatMap refsL↔∃j f,fo[j]?=some f∧f≠[]∧c=ids j:=by
 unfold rows2;simp only[List.mem_flatMap];constructor
 ·rintro⟨r,hr,hc⟩
  obtain⟨j,hj⟩:=List.mem_iff_getElem?.1 hr;rw[List.getElem?_mapIdx]at hj;cases hf:fo[j]? with
  |none=>rw[hf]at hj;cases hj
  |some f=>
   rw[hf]at hj;cases hj;simp only[refsL,slV_refs,List.append_nil]at hc;split at hc
   ·simp at hc
   ·rename_i hne;exact⟨j,f,hf,hne,by simpa using hc⟩
 ·rintro⟨j,f,hf,hne,rfl⟩
  refine⟨[slV (ids j) (cp j) f],List.mem_iff_getElem?.2 ⟨j,by rw[List.getElem?_mapIdx,hf];rfl⟩,?_⟩;simp[refsL,slV_refs,hne]
theorem slV_ren{π:Nat→Option Nat}{b c:Nat}{q:Option Nat}{f:List (List AV)}(h:f≠[]→π b=some c):ren π (slV b q f)=slV c q f:=by
 cases f with
 |nil=>rfl
 |cons a r=>simp only[slV,ren,h (by simp)]
section
variable {m:Nat}{F:Frm}{H H1:Heap}{R:Nat→Prop}{π:Nat→Option Nat}{b k:Nat}{ids:Nat→Nat}{cp:Nat→Option Nat}{fo:List (List (List AV))}
theorem Two.ren(hg:Gc m F H R π H1)(h:Two H b k ids cp fo)(hb:R b):∃b' ids',π b=some b'∧Two H1 b' k ids' cp fo:=by
 obtain⟨b',hb'⟩:=hg.here b hb;have hsub:∀(j:Nat) (f:List (List AV)),fo[j]?=some f→f≠[]→π (ids j)=some ((π (ids j)).getD 0):=by intro j f hf hne;have:R (ids j):=hg.closed b hb _ (by rw[h.top];exact rows2_refs.2 ⟨j,f,hf,hne,rfl⟩);obtain⟨c,hc⟩:=hg.here _ this;rw[hc];rfl
 refine⟨b',λj=>(π (ids j)).getD 0,hb',?_,?_,?_,h.flat⟩
 ·rw[hg.heap b b' hb',h.top];simp only[Option.map_some,renObj]
  congr 2
  unfold rows2;apply List.ext_getElem?;intro j;simp only[List.getElem?_map,List.getElem?_mapIdx];cases hf:fo[j]? with
  |none=>rfl
  |some f=>simp only[Option.map_some,List.map_cons,List.map_nil,slV_ren (hsub j f hf)]
 ·intro j f hf hne;have e:=hsub j f hf hne;obtain⟨h1,h2⟩:=h.sub j f hf hne;refine⟨?_,?_⟩
  ·rw[hg.heap _ _ e,h1];simp only[Option.map_some,renObj,renR_flat π (h.flat f (List.mem_of_getElem? hf))]
  ·intro he;rw[he]at e;exact h2 (hg.inj _ _ _ e hb')
 ·intro i j f g hf hg' hne hne' e;have e1:=hsub i f hf hne;have e2:=hsub j g hg' hne';rw[e]at e1;exact h.inj i j f g hf hg' hne hne' (hg.inj _ _ _ e1 e2)
theorem Two.app(h:Two H b k ids cp fo){j n:Nat}{f:List (List AV)}{x:List AV}(hf:fo[j]?=some f)(hc:cp j=none)(hx:refsL x=[])(hn:H.length≤n)
 (h1:HeapF H1 b=some (.row 1 ((rows2 ids cp fo).set j [.slice n 0 (f.length+1) none])))(h2:HeapF H1 n=some (.row k (f++[x])))
 (h3:∀(i:Nat) (g:List (List AV)),i≠j→fo[i]?=some g→g≠[]→HeapF H1 (ids i)=HeapF H (ids i)) :
 Two H1 b k (λi=>if i=j then n else ids i) cp (fo.set j (f++[x])):=by
 have hjl:j<fo.length:=(List.getElem?_eq_some_iff.1 hf).1;have hlt:∀(i:Nat) (g:List (List AV)),fo[i]?=some g→g≠[]→ids i<H.length:=λi g hg hne=>heapF_lt (h.sub i g hg hne).1;have hbl:b<H.length:=heapF_lt h.top;refine⟨?_,?_,?_,?_⟩
 ·rw[h1]
  congr 2
  apply List.ext_getElem?;intro i;unfold rows2;rw[List.getElem?_set,List.length_mapIdx];by_cases hij:j=i
  ·subst hij;simp only[if_true,hjl];rw[List.getElem?_mapIdx,List.getElem?_set];simp only[if_true,hjl,Option.map_some,hc,slV_none,grV_snoc]
  ·simp only[if_neg hij];rw[List.getElem?_mapIdx,List.getElem?_mapIdx,List.getElem?_set,if_neg hij];simp only[if_neg (Ne.symm hij)]
 ·intro i g hg hne;rw[List.getElem?_set]at hg;by_cases hij:j=i
  ·subst hij;simp only[if_true,hjl,Option.some.injEq]at hg;subst hg;simp only[if_true];exact⟨h2,by omega⟩
  ·rw[if_neg hij]at hg;simp only[if_neg (Ne.symm hij)];rw[h3 i g (Ne.symm hij) hg hne];exact h.sub i g hg hne
 ·intro i i' g g' hg hg' hne hne' e;rw[List.getElem?_set]at hg hg';by_cases hij:j=i<;>by_cases hij':j=i'
  ·omega
  ·subst hij;simp only[if_neg hij']at hg';simp only[if_true,if_neg (Ne.symm hij')]at e;have:=hlt i' g' hg' hne';omega
  ·subst hij';simp only[if_neg hij]at hg;simp only[if_true,if_neg (Ne.symm hij)]at e;have:=hlt i g hg hne;omega
  ·simp only[if_neg hij]at hg;simp only[if_neg hij']at hg';simp only[if_neg (Ne.symm hij),if_neg (Ne.symm hij')]at e;exact h.inj i i' g g' hg hg' hne hne' e
 ·intro g hg;rcases List.mem_or_eq_of_mem_set hg with hg|rfl
  ·exact h.flat g hg
  ·exact(h.flat f (List.mem_of_getElem? hf)).append (FlatR.cons hx FlatR.nil)
theorem sum_zero{H:Heap}:∀(l:List Nat),(∀c∈l,refsO (HeapF H c)=[])→(l.map λc=>(refsO (HeapF H c)).length).sum=0
 | [],_=>rfl
 |a::l,h=>by simp only[List.map_cons,List.sum_cons,h a (by simp),List.length_nil,sum_zero l (λc hc=>h c (by simp[hc]))]
theorem Two.gc{keep:List Nat}(h:Two H b k ids cp fo)(hF:refsL ((keepF keep F).map (·.2))=[b]∨refsL ((keepF keep F).map (·.2))=[b,b])(hn:fo.length<900000) :
 ∃π b' ids' H1,gcD 0 keep F H=some (renF π (keepF keep F),H1)∧π b=some b'∧Two H1 b' k ids' cp fo:=by
 -- the blocks that rows lead to
 obtain⟨S,hS⟩:∃S,S=b::((List.range fo.length).filter λj=>(fo[j]?).any λf=>!f.isEmpty).map ids:=⟨_,rfl⟩
 have hleaf:∀c∈((List.range fo.length).filter λj=>(fo[j]?).any λf=>!f.isEmpty).map ids,refsO (HeapF H c)=[]:=by
  intro c hc;obtain⟨j,hj,rfl⟩:=List.mem_map.1 hc;rw[List.mem_filter]at hj;have hjl:j<fo.length:=by simpa using hj.1
  obtain⟨f,hf⟩:∃f,fo[j]?=some f:=⟨_,List.getElem?_eq_getElem hjl⟩
  have hne:=hj.2;rw[hf]at hne;rw[(h.sub j f hf (λe=>by rw[e]at hne;simp at hne)).1];exact refsO_flat (h.flat f (List.mem_of_getElem? hf))
 have hsum:((((List.range fo.length).filter λj=>(fo[j]?).any λf=>!f.isEmpty).map ids).map λc=>(refsO (HeapF H c)).length).sum=0:=by exact sum_zero _ hleaf
 have hrow:(refsO (HeapF H b)).length≤fo.length:=by
  rw[h.top];show((rows2 ids cp fo).flatMap refsL).length≤_;have:∀(l:List (List AV)),(∀r∈l,(refsL r).length≤1)→(l.flatMap refsL).length≤l.length:=by
   intro l
   induction l with
   |nil=>intro _;simp
   |cons r l ih=>intro hl;have h1:=hl r (by simp);have h2:=ih (λr hr=>hl r (by simp[hr]));simp only[List.flatMap_cons,List.length_append,List.length_cons];omega
  have h2:=this (rows2 ids cp fo) (by
   intro r hr;obtain⟨j,hj⟩:=List.mem_iff_getElem?.1 hr;unfold rows2 at hj;rw[List.getElem?_mapIdx]at hj;cases hf:fo[j]? with
   |none=>rw[hf]at hj;cases hj
   |some f=>rw[hf]at hj;cases hj;simp only[refsL,slV_refs];split<;>simp)
  rw[rows2_len]at h2;exact h2
 obtain⟨R,π,H1,g1,g2,_⟩:=gc_gen (m:=0) (keep:=keep) (F:=F) (H:=H) (Nat.zero_le _) S (by intro c hc;rcases hF with hF|hF<;>rw[hF]at hc<;>simp at hc<;>subst hc<;>simp[hS]) (λc hc=>absurd hc (Nat.not_lt_zero c)) (by
  intro c hc d hd;simp only[hS,List.mem_cons]at hc;rcases hc with rfl|hc
  ·rw[h.top]at hd;obtain⟨j,f,hf,hne,rfl⟩:=rows2_refs.1 hd;simp only[hS,List.mem_cons];refine .inr (List.mem_map.2 ⟨j,List.mem_filter.2 ⟨by simpa using(List.getElem?_eq_some_iff.1 hf).1,?_⟩,rfl⟩);rw[hf];cases f with|nil=>exact absurd rfl hne|cons=>rfl
  ·rw[hleaf c hc]at hd;simp at hd) (by
  have hl:(refsL ((keepF keep F).map (·.2))).length≤2:=by rcases hF with hF|hF<;>rw[hF]<;>simp
  simp only[hS,List.map_cons,List.sum_cons,hsum,List.take_zero,List.flatMap_nil,List.length_nil];omega)
 obtain⟨b',ids',e1,e2⟩:=h.ren g2 (g2.refs b (by rcases hF with hF|hF<;>rw[hF]<;>simp));exact⟨π,b',ids',H1,g1,e1,e2⟩
theorem Two.clip(h:Two H b k ids cp fo){j c:Nat}{f:List (List AV)}(hf:fo[j]?=some f)(h1:HeapF H1 b=some (.row 1 ((rows2 ids cp fo).set j [slV (ids j) (some c) f])))
 (h3:∀c,c≠b→HeapF H1 c=HeapF H c):Two H1 b k ids (λi=>if i=j then some c else cp i) fo:=by
 have hjl:j<fo.length:=(List.getElem?_eq_some_iff.1 hf).1;refine⟨?_,λi g hg hne=>?_,h.inj,h.flat⟩
 ·rw[h1]
  congr 2
  apply List.ext_getElem?;intro i;unfold rows2;rw[List.getElem?_set,List.length_mapIdx];by_cases hij:j=i
  ·subst hij;simp only[if_true,hjl];rw[List.getElem?_mapIdx,hf];simp
  ·simp only[if_neg hij];rw[List.getElem?_mapIdx,List.getElem?_mapIdx];simp only[if_neg (Ne.symm hij)]
 ·obtain⟨g1,g2⟩:=h.sub i g hg hne;rw[h3 _ g2];exact⟨g1,g2⟩
def slF(c:Option Nat):List (List AV)→AV|[]=>.nilslice|r::rs=>.islice (r::rs) c
theorem Two.frz(h:Two H b k ids cp fo)(c:Option Nat):frzV 0 true (frzD (HeapF H) 0 12) (.slice b 0 fo.length c)=some (.islice (fo.mapIdx λj f=>[slF (cp j) f]) c):=by
 have key:∀(rows:List (List AV)) (out:List (List AV)),rows.length=out.length→(∀(j:Nat) r o,rows[j]?=some r→out[j]?=some o→frzL 0 false (frzD (HeapF H) 0 11) r=some o)→frzR 0 (frzD (HeapF H) 0 11) rows=some out:=by
  intro rows
  induction rows with
  |nil=>intro out hl _;cases out with|nil=>rfl|cons=>simp at hl
  |cons r rows ih=>
   intro out hl hh;cases out with
   |nil=>simp at hl
   |cons o out=>rw[frzR_cons,hh 0 r o rfl rfl];simp only[obind];rw[ih out (by simpa using hl) (λj r o hr ho=>hh (j+1) r o (by simpa using hr) (by simpa using ho))]
 have e12:∀x,frzD (HeapF H) 0 12 x=frzD (HeapF H) 0 (11+1) x:=λ_=>rfl;rw[frz_slice,decide_eq_false (Nat.not_lt_zero b),cond_false,frzD_slice (eq_true (by omega:0<12)),h.top];simp only[rowO,obind,rows2_len,List.drop_zero,Nat.zero_add];rw[decide_eq_true (Nat.le_refl _),cond_true,←rows2_len ids cp fo,List.take_length];rw[key (rows2 ids cp fo) (fo.mapIdx λj f=>[slF (cp j) f]) (by rw[rows2_len];simp)];intro j r o hr ho;rw[List.getElem?_mapIdx]at ho;cases hf:fo[j]? with
 |none=>rw[hf]at ho;cases ho
 |some f=>
  rw[hf]at ho;rw[rows2_get hf]at hr;cases ho;cases hr;rw[frzL_cons,frzL_nil];cases f with
  |nil=>rfl
  |cons x xs=>obtain⟨g1,_⟩:=h.sub j _ hf (by simp);have hfl:=h.flat _ (List.mem_of_getElem? hf);simp only[slV,slF];rw[frz_slice,decide_eq_false (Nat.not_lt_zero _),cond_false,frzD_slice (eq_true (by omega:0<11)),g1];simp only[rowO,obind,List.drop_zero,Nat.zero_add];rw[decide_eq_true (by simp),cond_true];have:List.take (xs.length+1) (x::xs)=x::xs:=List.take_length (l:=x::xs);rw[this,frzR_flat _ _ hfl]
end
theorem Two.more{H L:Heap}{b k:Nat}{ids:Nat→Nat}{cp:Nat→Option Nat}{fo:List (List (List AV))}(h:Two H b k ids cp fo):Two (H++L) b k ids cp fo:=by
 have hl:∀{c:Nat} {o:AObj},HeapF H c=some o→HeapF (H++L) c=some o:=λhc=>by rw[heapF_lo (eq_true (heapF_lt hc))];exact hc
 exact⟨hl h.top,λj f hf hne=>⟨hl (h.sub j f hf hne).1,(h.sub j f hf hne).2⟩,h.inj,h.flat⟩
theorem heapF_hiS{H L:Heap}{a:Nat}{o:Option AObj}(i:Nat):HeapF (H.set a o++L) (H.length+i)=HeapF L i:=by
 have:=heapF_hi (H:=H.set a o) (L:=L) i
 rwa [List.length_set]at this
theorem heapF_loS{H L:Heap}{a c:Nat}{o:Option AObj}(hc:c<H.length):HeapF (H.set a o++L) c=if a=c then o else HeapF H c:=by
 rw[heapF_lo (eq_true (by rw[List.length_set];exact hc)),heapF_set];by_cases h:a=c
 ·subst h;simp[hc]
 ·simp[h]
section
variable {H:Heap}{b k:Nat}{ids:Nat→Nat}{cp:Nat→Option Nat}{fo:List (List (List AV))}{j:Nat}{x:List AV}{o:Option AObj}
theorem Two.app1(h:Two H b k ids cp fo)(hf:fo[j]?=some [])(hc:cp j=none)(hx:refsL x=[]) :
 Two (H.set b (some (.row 1 ((rows2 ids cp fo).set j [.slice (H.length+1) 0 1 none])))++[o,some (.row k [x])]) b k (λi=>if i=j then H.length+1 else ids i) cp (fo.set j [x]):=by
 have hbl:=heapF_lt h.top;refine h.app hf hc hx (by omega) ?_ ?_ ?_
 ·rw[heapF_loS hbl,if_pos rfl];rfl
 ·rw[heapF_hiS];rfl
 ·intro i g hij hg hne;obtain⟨g1,g2⟩:=h.sub i g hg hne;rw[heapF_loS (heapF_lt g1),if_neg (Ne.symm g2)]
theorem Two.app2{a:List AV}{r:List (List AV)}(h:Two H b k ids cp fo)(hf:fo[j]?=some (a::r))(hc:cp j=none)(hx:refsL x=[]) :
 Two ((H.set (ids j) none).set b (some (.row 1 ((rows2 ids cp fo).set j [.slice (H.length+1) 0 (r.length+1+1) none])))++[o,some (.row k (a::(r++[x])))]) b k (λi=>if i=j then H.length+1 else ids i) cp (fo.set j (a::r++[x])):=by
 have hbl:=heapF_lt h.top;have hll:(H.set (ids j) none).length=H.length:=List.length_set;refine h.app hf hc hx (by omega) ?_ ?_ ?_
 ·rw[heapF_loS (by rw[hll];exact hbl),if_pos rfl];rfl
 ·have:=heapF_hiS (H:=H.set (ids j) none) (L:=[o,some (.row k (a::(r++[x])))]) (a:=b) (o:=some (.row 1 ((rows2 ids cp fo).set j [.slice (H.length+1) 0 (r.length+1+1) none]))) 1;rw[hll]at this;rw[this];rfl
 ·intro i g hij hg hne;obtain⟨g1,g2⟩:=h.sub i g hg hne;rw[heapF_loS (by rw[hll];exact heapF_lt g1),if_neg (Ne.symm g2),heapF_set_ne];intro e;exact hij (h.inj i j g (a::r) hg hf hne (by simp) e.symm)
end
theorem two_head{keep:List Nat}{F:Frm}{H:Heap}{b k:Nat}{ids:Nat→Nat}{cp:Nat→Option Nat}{fo:List (List (List AV))}{P:Frm→Heap→Prop}(h:Two H b k ids cp fo)(hF:refsL ((keepF keep F).map (·.2))=[b]∨refsL ((keepF keep F).map (·.2))=[b,b])(hn:fo.length<900000)
 (hP:∀π b' ids' H1,π b=some b'→Two H1 b' k ids' cp fo→P (renF π (keepF keep F)) H1):∃F1 H1,gcD 0 keep F H=some (F1,H1)∧P F1 H1:=by
 obtain⟨π,b',ids',H1,g1,g2,g3⟩:=h.gc hF hn;exact⟨_,H1,g1,hP π b' ids' H1 g2 g3⟩
def fqE(E:Env)(g:FuncId)(m:Nat)(results:List ResultVar)(P:AV×Heap→Prop):Post:=λe F H=>match e with|.exit _=>False|_=>∃vs r,aresults E F H results=some vs∧finish (E.thaw g) m (oneOf vs) H=some r∧P r
theorem fqE_r{E:Env}{g:FuncId}{m:Nat}{results:List ResultVar}{P:AV×Heap→Prop}{F:Frm}{H:Heap}{vs:List AV}{r:AV×Heap}(h1:aresults E F H results=some vs)(h2:finish (E.thaw g) m (oneOf vs) H=some r)(h3:P r):fqE E g m results P .ret F H:=⟨vs,r,h1,h2,h3⟩
theorem fqE_n{E:Env}{g:FuncId}{m:Nat}{results:List ResultVar}{P:AV×Heap→Prop}{F:Frm}{H:Heap}{vs:List AV}{r:AV×Heap}(h1:aresults E F H results=some vs)(h2:finish (E.thaw g) m (oneOf vs) H=some r)(h3:P r):fqE E g m results P .normal F H:=⟨vs,r,h1,h2,h3⟩
theorem sem_wpE{E:Env}{M:List Fact}{g:FuncId}{args:List AV}{H:Heap}{code:Code}{N:Nat}{results:List ResultVar}{P:AV×Heap→Prop}
 (hfn:E.fn g=some ⟨code,N,results⟩)(hno:∀y∈M,y.g≠g)(hN:Nat.ble args.length N=true){m:Nat}(hm:H.length=m)(h:Wp (cx E M m N g 0) code (entryF 0 args) H (fqE E g m results P))(hp:E.prim g args=none:=by rfl)(hz:E.zf g=false:=by rfl)(hw:E.raw g=false:=by rfl):∃r,P r∧sem E M g args H=some r:=by
 subst hm;obtain⟨e,F',H',h1,h2⟩:=wp_ev _ h;cases e with
 |normal=>obtain⟨vs,⟨v,H2⟩,h3,h4,h5⟩:=h2;exact⟨_,h5,sem_ev hfn hno hN h1 (λ_ h=>by cases h) h3 h4 hp hz hw⟩
 |ret=>obtain⟨vs,⟨v,H2⟩,h3,h4,h5⟩:=h2;exact⟨_,h5,sem_ev hfn hno hN h1 (λ_ h=>by cases h) h3 h4 hp hz hw⟩
 |exit id=>exact h2.elim
theorem svE{E:Env}{M:List Fact}{g:FuncId}{args:List AV}{H:Heap}{P:AV×Heap→Prop}(f:Func)(h:Wp (cx E M H.length f.ntmps g 0) (f.body.getD .skip) (entryF 0 args) H (fqE E g H.length f.results.toList P))(hfn:E.fn g=some ⟨f.body.getD .skip,f.ntmps,f.results.toList⟩:=by kernel_rfl)
 (hno:(M.all λy=>!Nat.beq y.g g)=true:=by rfl)(hN:Nat.ble args.length f.ntmps=true:=by rfl)(hp:E.prim g args=none:=by rfl)(hz:E.zf g=false:=by rfl)(hw:E.raw g=false:=by rfl):∃r,P r∧sem E M g args H=some r:=sem_wpE hfn (λy hy e=>by
 have:=List.all_eq_true.1 hno y hy;rw[e]at this;simp at this) hN rfl h hp hz hw
end Go.Ax
/- AxCall3: calls over two blocks, which they may write. -/
namespace Go.Ax
end Go.Ax
/- AxSup: closed runs over facts of calls, without a given fact. -/
namespace Go.Ax
end Go.Ax
/- AxTab: a table of rows of words in blocks, wherever they lie; heads of loops and calls over it. -/
namespace Go.Ax
section
variable {H H1:Heap}{R:Nat→Prop}{π:Nat→Option Nat}{a b q:Nat}{ids:Nat→Nat}{w:Nat}{fo:List (List (BitVec 64))}{fr:Int}
end
/-! ### calls, wherever the blocks lie -/
end Go.Ax
/- AxTab2: a table that a call has been given: heads of loops and calls that write it. -/
namespace Go.Ax
section
variable {H H1:Heap}{a b q:Nat}{ids:Nat→Nat}{w:Nat}{fo:List (List (BitVec 64))}{fr:Int}
end
end Go.Ax
/- AxLow: a loop's head over blocks that all stood before the call and refer to nothing. -/
namespace Go.Ax
end Go.Ax
/- AxRf: loops over functions, as conditions on their ends; their rounds. -/
namespace Go.Ax
def rfQ(Q:Post)(F:Frm)(H:Heap):Option YSt→Prop
 |some .ready=>Q .normal F H
 |some (.done none)=>Q .ret F H
 |some (.done (some id))=>Q (.exit id) F H
 |_=>False
theorem xp_rf{E:Env}{M:List Fact}{m N:Nat}{g:FuncId}{cur:Nat}{keep:List Nat}{f:Operand}{ps:Array Nat}{asg body:Code}{F:Frm}{H H2:Heap}{Q:Post}{g':FuncId}{fs cs:List AV}{y:Nat}{v:AV}{s:List Nat}
 (hk:E.keep g cur=keep)(hf:opv E F f = .func (.func g') fs cs)(hy:yOf keep=some y)(hfn:((E.fn g').isSome && !E.ext g')=true)
 (hc:callLoc (sem E M g') (fs++[.yfn H.length]++cs) (H++[some (.yloop y (keepF keep F) .ready)])=some (v,H2,s))
 (hq:rfQ Q F (H2.set H.length none) (yGet H2 H.length)):Wp (cx E M m N g cur) (.rangeFunc f ps asg body) F H Q:=by
 subst hk;cases hst:yGet H2 H.length with
 |none=>rw[hst]at hq;exact hq.elim
 |some st=>
  rw[hst]at hq;cases st with
  |busy=>exact hq.elim
  |ready=>exact⟨.normal,F,H2.set H.length none,⟨0,λlf _ R k=>by simp only[aevC,cx,hf,hy,hfn,cond_true,hc,hst]⟩,hq⟩
  |done j=>
   cases j with
   |none=>exact⟨.ret,F,H2.set H.length none,⟨0,λlf _ R k=>by simp only[aevC,cx,hf,hy,hfn,cond_true,hc,hst]⟩,hq⟩
   |some id=>exact⟨.exit id,F,H2.set H.length none,⟨0,λlf _ R k=>by simp only[aevC,cx,hf,hy,hfn,cond_true,hc,hst]⟩,hq⟩
def ryE(b:Nat)(r:AV×Heap):Post:=λe _ H2=>match e with
 |.normal=>(ySet H2 b .busy .ready).map (λH=>(AV.bool true,H))=some r
 |.ret=>(ySet H2 b .busy (.done none)).map (λH=>(AV.bool false,H))=some r
 |.exit id=>(ySet H2 b .busy (.done (some id))).map (λH=>(AV.bool false,H))=some r
def ryA(x:Cx)(b:Nat)(body:Code)(r:AV×Heap):Post:=λe F H=>match e with
 |.normal=>∃H1,ySet H b .ready .busy=some H1∧Wp x body F H1 (ryE b r)
 |_=>False
theorem sem_round{E:Env}{M:List Fact}{b y:Nat}{vs:List AV}{H:Heap}{F:Frm}{ri:RInfo}{r:AV×Heap}(hno:∀x∈M,x.g≠yId)(hfn:E.fn yId=none)(hb:HeapF H b=some (.yloop y F .ready))(hr:E.G.rnd y=some ri)
 (hl:(Nat.beq vs.length ri.ps.length&&ri.ps.all (Nat.blt · ri.N))=true){m:Nat}(hm:H.length=m)
 (h:Wp (cx E M m ri.N ri.fid 0) ri.asg (setsF F ri.ps vs) H (ryA (cx E M m ri.N ri.fid 0) b ri.body r))(hp:E.prim yId (.yfn b::vs)=none:=by rfl):sem E M yId (.yfn b::vs) H=some r:=by
 subst hm;obtain⟨e,F',H',⟨n1,h1⟩,h2⟩:=wp_ev _ h;cases e with
 |exit id=>exact h2.elim
 |ret=>exact h2.elim
 |normal=>
  obtain⟨H1,h3,h4⟩:=h2;obtain⟨e,F2,H2,⟨n2,h5⟩,h6⟩:=wp_ev _ h4;refine sem_run hno (max n1 n2) ?_;unfold runFn;have hph:primH E yId (.yfn b::vs) H=none:=primH_none hp;rw[hph,hfn];simp only;have hyb:Nat.beq yId yId=true:=by simp
  rw[hyb];simp only[cond_true];unfold runRound;simp only[hb,hr,hl,cond_true];refine(h1 _ (Nat.le_max_left _ _) _ _).trans ?_;simp only[h3];refine(h5 _ (Nat.le_max_right _ _) _ _).trans ?_;cases e with
  |normal=>exact h6
  |ret=>exact h6
  |exit id=>exact h6
theorem ryA_i{x:Cx}{b:Nat}{body:Code}{r:AV×Heap}{F:Frm}{H H1:Heap}(h1:ySet H b .ready .busy=some H1)(h2:Wp x body F H1 (ryE b r)):ryA x b body r .normal F H:=⟨H1,h1,h2⟩
theorem ryE_i{b:Nat}{r:AV×Heap}{F:Frm}{H2 H3:Heap}(h1:ySet H2 b .busy .ready=some H3)(h2:(AV.bool true,H3)=r):ryE b r .normal F H2:=by show(ySet H2 b .busy .ready).map _=_;rw[h1,←h2];rfl
@[go_sem] theorem setsF_cons(F:Frm)(t:Nat)(ts:List Nat)(v:AV)(vs:List AV):setsF F (t::ts) (v::vs)=setsF (setF F (some t) v) ts vs:=by rfl
@[go_sem] theorem setsF_nil(F:Frm):setsF F [] []=F:=by rfl
@[go_sem] theorem refsO_yloop(y:Nat)(F:List (Nat×AV))(st:YSt):refsO (some (.yloop y F st))=refsF F:=by rfl
@[go_sem] theorem refsF_nil:refsF []=[]:=by rfl
@[go_sem] theorem refsF_cons(s:Nat)(v:AV)(r:List (Nat×AV)):refsF ((s,v)::r)=refs v++refsF r:=by rfl
@[go_sem] theorem renObj_yloop(π:Nat→Option Nat)(y:Nat)(F:List (Nat×AV))(st:YSt):renObj π (.yloop y F st) = .yloop y (renF π F) st:=by rfl
@[go_sem] theorem refs_yfn(b:Nat):refs (.yfn b)=[b]:=by rfl
@[go_sem] theorem amin_ii(k k':IntKind)(a b:Int):amin (.int k a) [.int k' b]=some (.int k (if b<a then b else a)):=by rfl
end Go.Ax
/- AxLog: the look at a drawn region's log, the order first. -/
namespace Go.Ax
end Go.Ax
namespace Go.Ax
end Go.Ax
/- AxSl3: an immutable slice cut with its capacity. -/
namespace Go.Ax
section
variable {E:Env}{h:FHeap}{t:TypeId}
@[go_sem] theorem aslice_i3{rows:List (List AV)}{c:Option Nat}{k k':IntKind}{i j:Int}:aslice E h t (.islice rows c) none (some (.int k i)) (some (.int k' j))=obind (slT E t) λe=>bif isT E e&&rows.all (λr=>decide (r.length=E.sz e))&&inB j rows.length&&inB i j.toNat then some (.islice (rows.take i.toNat) (some j.toNat))else none:=by
 cases hs:slT E t with
 |none=>exact aslice_T hs (λ_ h=>by cases h)
 |some e=>have e1:(λr:List AV=>r.length==E.sz e)=λr=>decide (r.length=E.sz e):=funext λr=>beqN _ _;have e0:∀m,abound (none:Option AV) m 0=some 0:=λ_=>rfl;simp only[aslice,slT_iff.1 hs,obind,abound_i,isT,e1];cases(E.und e).isSome<;>cases rows.all (λr=>decide (r.length=E.sz e))<;>cases inB j rows.length<;>first|rfl|(simp only[cond_true,Bool.true_and];cases inB i j.toNat<;>rfl)
@[go_sem] theorem aslice_ih{rows:List (List AV)}{c:Option Nat}{k:IntKind}{j:Int}:aslice E h t (.islice rows c) none (some (.int k j)) none=obind (slT E t) λe=>bif isT E e&&rows.all (λr=>decide (r.length=E.sz e))&&inB j rows.length then some (.islice (rows.take j.toNat) c)else none:=by
 cases hs:slT E t with
 |none=>exact aslice_T hs (λ_ h=>by cases h)
 |some e=>
  have hc:c.map (λx=>x-0)=c:=by cases c<;>rfl
  have e1:(λr:List AV=>r.length==E.sz e)=λr=>decide (r.length=E.sz e):=funext λr=>beqN _ _;have e0:∀m,abound (none:Option AV) m 0=some 0:=λ_=>rfl;simp only[aslice,slT_iff.1 hs,obind,abound_i,isT,e1];cases(E.und e).isSome<;>cases rows.all (λr=>decide (r.length=E.sz e))<;>cases inB j rows.length<;>first|rfl|(simp only[cond_true,Bool.true_and,e0,hc];rfl)
@[go_sem] theorem aslice_il{rows:List (List AV)}{c:Option Nat}{k:IntKind}{i:Int}:aslice E h t (.islice rows c) (some (.int k i)) none none=obind (slT E t) λe=>bif isT E e&&rows.all (λr=>decide (r.length=E.sz e))&&inB i rows.length then some (.islice (rows.drop i.toNat) (c.map (·- i.toNat)))else none:=by
 cases hs:slT E t with
 |none=>exact aslice_T hs (λ_ h=>by cases h)
 |some e=>have e1:(λr:List AV=>r.length==E.sz e)=λr=>decide (r.length=E.sz e):=funext λr=>beqN _ _;have e0:abound (none:Option AV) rows.length rows.length=some rows.length:=rfl;simp only[aslice,slT_iff.1 hs,obind,isT,e1,e0,abound_i,List.take_length];cases(E.und e).isSome<;>cases rows.all (λr=>decide (r.length=E.sz e))<;>first|rfl|(simp only[cond_true,Bool.true_and];cases inB i rows.length<;>rfl)
end
end Go.Ax
/- AxWpY: rules for a function whose own memory is frozen behind its first outermost statements. -/
namespace Go.Ax
def fqR(E:Env)(results:List ResultVar)(r:AV×Heap):Post:=λe F H=>match e with|.exit _=>False|_=>∃vs,aresults E F H results=some vs∧(oneOf vs,H)=r
theorem fqR_r{E:Env}{results:List ResultVar}{r:AV×Heap}{F:Frm}{H:Heap}{vs:List AV}(h1:aresults E F H results=some vs)(h2:(oneOf vs,H)=r):fqR E results r .ret F H:=⟨vs,h1,h2⟩
theorem sem_evR{E:Env}{M:List Fact}{g:FuncId}{args:List AV}{H:Heap}{code:Code}{N:Nat}{results:List ResultVar}{e:AExit}{F':Frm}{H':Heap}{vs:List AV}
 (hfn:E.fn g=some ⟨code,N,results⟩)(hno:∀y∈M,y.g≠g)(hN:Nat.ble args.length N=true)(h:Ev ⟨E,M,H.length,N,E.keep g,0⟩ code (entryF 0 args) H (e,F',H'))(he:∀id,e≠ .exit id)
 (hr:aresults E F' H' results=some vs)(hp:E.prim g args=none)(hz:E.zf g=false)(hw:E.raw g=true):sem E M g args H=some (oneOf vs,H'):=by
 obtain⟨n,h⟩:=h;refine sem_run hno n ?_;unfold runFn;have hph:primH E g args H=none:=primH_none hp;rw[hph,hfn];simp only;rw[hN];simp only[cond_true];unfold aevX;rw[hz];simp only[cond_false];refine(h n (Nat.le_refl _) _ _).trans ?_;cases e with
 |exit id=>exact absurd rfl (he id)
 |normal=>simp only[hr,endV,hw,cond_true]
 |ret=>simp only[hr,endV,hw,cond_true]
theorem svR{E:Env}{M:List Fact}{g:FuncId}{args:List AV}{H:Heap}{r:AV×Heap}(f:Func)(h:Wp (cx E M H.length f.ntmps g 0) (f.body.getD .skip) (entryF 0 args) H (fqR E f.results.toList r))(hfn:E.fn g=some ⟨f.body.getD .skip,f.ntmps,f.results.toList⟩:=by kernel_rfl)
 (hno:(M.all λy=>!Nat.beq y.g g)=true:=by rfl)(hN:Nat.ble args.length f.ntmps=true:=by rfl)(hp:E.prim g args=none:=by rfl)(hz:E.zf g=false:=by rfl)(hw:E.raw g=true:=by rfl):sem E M g args H=some r:=by
 obtain⟨e,F',H',h1,h2⟩:=wp_ev _ h;have hno':∀y∈M,y.g≠g:=λy hy e=>by have:=List.all_eq_true.1 hno y hy;rw[e]at this;simp at this
 cases e with
 |normal=>obtain⟨vs,h3,rfl⟩:=h2;exact sem_evR hfn hno' hN h1 (λ_ h=>by cases h) h3 hp hz hw
 |ret=>obtain⟨vs,h3,rfl⟩:=h2;exact sem_evR hfn hno' hN h1 (λ_ h=>by cases h) h3 hp hz hw
 |exit id=>exact h2.elim
end Go.Ax
/- AxLd: lent calls in the walks. -/
namespace Go.Ax
theorem callV_lend{E:Env}{draw:Bool}{call:CallF}{g:FuncId}{fs cs as args args':List AV}{H H1:Heap}{v v':AV}(hx:E.ext g=true)(hf:(E.fn g).isSome=true)(he:fs++as++cs=args)(h1:frzL 0 false (frzD (HeapF H) 0 12) args=some args')(hr:call g args' []=some (v,H1))(hn:noI v=true)(hv:frzV 0 false (frzD (cleanF H1) 0 12) v=some v') :
 callV E draw call (.func (.func g) fs cs) as H=some (v',H,List.range H.length):=by
 simp only[callV,hx,hf,he,cond_true,lendLoc,h1,hr,hn,hv]
end Go.Ax
