/- AxTop: a call from outside: a3r old block is immutable. -/
import Derived.Test.YtbmkmaobejlkgaaGreatDoorAxC
import Derived.Below
import GoSem.ClaimChange
import GoSem.ClaimJoined
import Derived.RowKit
import Derived.ChangeSame
import Derived.Carry
import Derived.IntWalk
import Derived.KernelRfl
set_option linter.unusedSimpArgs false
set_option linter.unusedVariables false
namespace Go.Ax
open Go.RowKit
def Old(w:World):Nat→Prop:=λc=>c<w.heap.size
def Holds(E:Env)(w:World):Prop:=∀g cs,E.G g=some cs→g<w.heap.size∧VAt (Old w) w noP cs g 0
theorem d9q{E:Env}{f:FuncId}{run:List AV→a04→Option (AV×a04)}(hfy:f≠yId)(hf:a9j E f run){args:List AV}{v:AV}{H':a04}(h:run args []=some (v,H')){w:World}(hG:Holds E w){cargs:List Value}(ha:VRels (Old w) w noP args cargs) :
 Calls E.P f cargs.toArray w λen w'=>∃c I' ρ',en = .returned c∧Below w.heap.size w w'∧VRel I' w' ρ' v c:=by
 have rel:HRel E.G (Old w) (λ_=>False) noP (a01 []) w:=by
  refine⟨?_,?_,?_,λc hc=>hc,λc hc=>hc.elim,λ_ _ h=>h,hG⟩
  ·intro b o hb;simp[a01]at hb
  ·intro b b' m m' hb;simp[a01]at hb
  ·intro b m hb;simp[noP]at hb
 have h0:=hf args [] v H' h (Old w) (λ_=>False) noP w cargs rel (λ_ _=>rfl) ha;rw[a9i hfy]at h0;refine Calls.mono h0 ?_
 rintro en w' ⟨c,I',ρ',rfl,hret,hv⟩
 exact⟨c,I',ρ',rfl,⟨hret.ext.os,hret.ext.tape,hret.ext.output,hret.ext.size,λk hk=>hret.ext.keep k (.inl hk)⟩,hv⟩
theorem c9s{E:Env}{f:FuncId}{run:List AV→a04→Option (AV×a04)}(hfy:f≠yId)(hf:a9j E f run){args:List AV}{H':a04}(h:run args []=some (.bool true,H')){w:World}(hG:Holds E w){cargs:List Value}(ha:VRels (Old w) w noP args cargs) :
 Calls E.P f cargs.toArray w λen w'=>en = .returned (.bool true)∧Below w.heap.size w w':=by
 refine(d9q hfy hf h hG ha).mono ?_
 rintro en w' ⟨c,I',ρ',rfl,hb,hv⟩
 simp only[VRel]at hv;subst hv;exact⟨rfl,hb⟩
end Go.Ax
/- AxRead: what the row's reading of an argument gives: abstract values of the argument's type. -/
namespace Go.Ax
def Typ(E:Env):Nat→TypeId→List AV→Prop
 |0,_,_=>False
 |n+1,t,avs=>match E.und t with
  |some .bool=>∃b,avs=[.bool b]
  |some (.int k)=>∃i,avs=[.int k i]∧(Lit.int k i).wf=true
  |some .string=>∃s,avs=[.str s]∧s.length≤maxLen
  |some (.slice e)=>avs=[.nilslice]∨∃rows cap,avs=[.islice rows (some cap)]∧rows.length≤cap∧cap≤maxLen∧∀r∈rows,r.length=E.sz e∧Typ E n e r
  |some (.struct fs)=>∃parts:List (List AV),avs=parts.flatten∧parts.length=fs.toList.length∧∀(i:Nat) f p,fs.toList[i]?=some f→parts[i]?=some p→p.length=E.sz f.type∧Typ E n f.type p
  |some (.array m e)=>∃parts:List (List AV),avs=parts.flatten∧parts.length=m∧∀p∈parts,p.length=E.sz e∧Typ E n e p
  |_=>False
def c5o(E:Env):Nat→List Field→Option Nat
 |o,[]=>some o
 |o,f::r=>bif Nat.beq f.offset o then c5o E (o+E.sz f.type) r else none
def a4b(E:Env):Nat→TypeId→Bool
 |0,_=>false
 |n+1,t=>match E.und t with
  |some .bool=>true
  |some (.int _)=>true
  |some .string=>true
  |some (.slice e)=>(E.und e).isSome&&Nat.blt 0 (E.sz e)&&a4b E n e
  |some (.struct fs)=>(match c5o E 0 fs.toList with|some m=>Nat.beq m (E.sz t)|none=>false)&&fs.toList.all (λf=>(E.und f.type).isSome&&a4b E n f.type)
  |some (.array m e)=>(E.und e).isSome&&Nat.beq (m*E.sz e) (E.sz t)&&a4b E n e
  |_=>false
section
variable {E:Env}{w:World}{H:Type}{enc:TypeId×Value→H}{base:Nat}{spare:Nat→Bool}{held:Bool}
theorem a3e(ok:EnvOk E){t:TypeId}{d:TypeDesc}(h:E.und t=some d):E.P.cellsOf t=E.sz t:=by obtain⟨_,i,hi,h1,_⟩:=ok.und t d h;simp[Program.cellsOf,hi,h1]
theorem c60{I:Nat→Prop}{k:Nat}{b:Nat}{Pr:List AV→Prop}:∀(len off:Nat),(∀i,i<len→∃r,Pr r∧r.length=k∧VAt I w noP r b (off+i*k))→
 ∃rows:List (List AV),rows.length=len∧(∀r∈rows,r.length=k∧Pr r)∧VRows I w k noP rows b off
 |0,off,_=>⟨[],rfl,by simp,by simp[VRows]⟩
 |len+1,off,h=>by
  obtain⟨r,h1,h2,h3⟩:=h 0 (by omega);obtain⟨rows,g1,g2,g3⟩:=c60 (Pr:=Pr) len (off+k) (λi hi=>by obtain⟨r,q1,q2,q3⟩:=h (i+1) (by omega);refine⟨r,q1,q2,?_⟩;rw[show off+k+i*k=off+(i+1)*k by rw[Nat.add_mul];omega];exact q3);refine⟨r::rows,by simp[g1],?_,?_⟩
  ·intro x hx;simp only[List.mem_cons]at hx;rcases hx with rfl|hx
   ·exact⟨h2,h1⟩
   ·exact g2 x hx
  ·simp only[VRows];exact⟨h2,by simpa using h3,g3⟩
theorem c2k{I:Nat→Prop}{cs:List Value}{n:Nat}:∀(fs:List Field) (o:Nat) {m:Nat},c5o E o fs=some m→m≤cs.length→
 (∀f∈fs,∃avs,VRels I w noP avs ((cs.drop f.offset).take (E.sz f.type))∧Typ E n f.type avs)→
 o≤m∧∃parts:List (List AV),parts.length=fs.length∧(∀(i:Nat) f p,fs[i]?=some f→parts[i]?=some p→p.length=E.sz f.type∧Typ E n f.type p)∧VRels I w noP parts.flatten ((cs.drop o).take (m-o))
 | [],o,m,ht,hm,_=>by simp only[c5o,Option.some.injEq]at ht;subst ht;exact⟨Nat.le_refl _,[],rfl,by simp,by simp[VRels]⟩
 |f::r,o,m,ht,hm,h=>by
  simp only[c5o,cond_eq_ite]at ht;split at ht
  case isFalse=>cases ht
  rename_i hfo;have hfo:f.offset=o:=by simpa using hfo
  obtain⟨hle,parts,h1,h2,h3⟩:=c2k r (o+E.sz f.type) ht hm (λg hg=>h g (by simp[hg]));obtain⟨avs,g1,g2⟩:=h f (by simp);rw[hfo]at g1;have hlen:avs.length=E.sz f.type:=by have:=VRels.length g1;rw[this];simp;omega
  refine⟨by omega,avs::parts,by simp[h1],?_,?_⟩
  ·intro i g p hg hp;cases i with
   |zero=>simp only[List.getElem?_cons_zero,Option.some.injEq]at hg hp;subst hg;subst hp;exact⟨hlen,g2⟩
   |succ i=>simp only[List.getElem?_cons_succ]at hg hp;exact h2 i g p hg hp
  ·simp only[List.flatten_cons];have:(cs.drop o).take (m-o)=(cs.drop o).take (E.sz f.type)++(cs.drop (o+E.sz f.type)).take (m-(o+E.sz f.type)):=by
    rw[show m-o=E.sz f.type+(m-(o+E.sz f.type)) by omega,List.take_add,List.drop_drop]
   rw[this];exact VRels.append g1 h3
theorem d48{I:Nat→Prop}{cs:List Value}{n k:Nat}{e:TypeId}:∀(m o:Nat),o+m*k≤cs.length→
 (∀i,i<m→∃avs,VRels I w noP avs ((cs.drop (o+i*k)).take k)∧Typ E n e avs)→
 ∃parts:List (List AV),parts.length=m∧(∀p∈parts,p.length=k∧Typ E n e p)∧VRels I w noP parts.flatten ((cs.drop o).take (m*k))
 |0,o,_,_=>⟨[],rfl,by simp,by simp[VRels]⟩
 |m+1,o,hl,h=>by
  have hmk:(m+1)*k=k+m*k:=by rw[Nat.add_mul];omega
  obtain⟨parts,h1,h2,h3⟩:=d48 (cs:=cs) (k:=k) (e:=e) m (o+k) (by omega) (λi hi=>by obtain⟨avs,g1,g2⟩:=h (i+1) (by omega);refine⟨avs,?_,g2⟩;rw[show o+k+i*k=o+(i+1)*k by rw[Nat.add_mul];omega];exact g1);obtain⟨avs,g1,g2⟩:=h 0 (by omega);rw[Nat.zero_mul,Nat.add_zero]at g1;have hlen:avs.length=k:=by have:=VRels.length g1;rw[this];simp;omega
  refine⟨avs::parts,by simp[h1],?_,?_⟩
  ·intro p hp;simp only[List.mem_cons]at hp;rcases hp with rfl|hp
   ·exact⟨hlen,g2⟩
   ·exact h2 p hp
  ·simp only[List.flatten_cons];rw[hmk,List.take_add,List.drop_drop];exact VRels.append g1 h3
theorem b6v{α β:Type}{f:α→Option β}{l:List α}{r:List β}(h:l.mapM f=some r):∀x∈l,∃y,f x=some y:=by
 induction l generalizing r with
 |nil=>simp
 |cons a l ih=>
  rw[List.mapM_cons]at h;intro x hx;cases hfa:f a with
  |none=>simp[hfa]at h
  |some y=>
   simp only[hfa,Option.bind_eq_bind,Option.bind_some]at h;cases hl:l.mapM f with
   |none=>simp[hl]at h
   |some r'=>
    simp only[List.mem_cons]at hx;rcases hx with rfl|hx
    ·exact⟨y,hfa⟩
    ·exact ih hl x hx
theorem b3w{I:Nat→Prop}{avs:List AV}{cs:List Value}{b off:Nat}(hc:∀i v,cs[i]?=some v→w.cell? ⟨b,off+i,none⟩=some v)(h:VRels I w noP avs cs):VAt I w noP avs b off:=VAt.of_cells (λi v hv=>hc i v hv) h
theorem c68(ok:EnvOk E):∀(n:Nat) (t:TypeId),a4b E n t=true→∀(fuel:Nat) (cs:List Value) (x:DataW H×List MemPlace),DataW.trod enc E.P w base spare held fuel t cs=some x→
 ∃avs,VRels (Old w) w noP avs cs∧Typ E n t avs
 |0,t,hr=>by simp[a4b]at hr
 |n+1,t,hr=>by
  intro fuel cs x h;cases fuel with
  |zero=>simp[DataW.trod]at h
  |succ fuel=>
  have ih:=c68 ok n;unfold a4b at hr;unfold DataW.trod at h;cases hu:E.und t with
  |none=>rw[hu]at hr;simp at hr
  |some d=>
   have hP:=(ok.und t d hu).1;have hsz:=a3e ok hu;rw[hu]at hr;rw[hP]at h;cases d<;>simp only[Bool.false_eq_true]at hr
   case bool=>
    obtain⟨b,rfl⟩:∃b,cs=[.bool b]:=by split at h<;>simp_all
    exact⟨[.bool b],by simp[VRels,VRel],by simp[Typ,hu]⟩
   case int k=>
    obtain⟨i,rfl,hw⟩:∃i,cs=[.int k i]∧(Lit.int k i).wf=true:=by split at h<;>simp_all
    exact⟨[.int k i],by simp[VRels,VRel],by simp[Typ,hu,hw]⟩
   case string=>
    obtain⟨b,rfl,hw⟩:∃b:ByteArray,cs=[.string b]∧b.size≤maxLen:=by split at h<;>simp_all
    exact⟨[.str b.data.toList],by simp[VRels,VRel],by simp only[Typ,hu];exact⟨_,rfl,by simpa using hw⟩⟩
   case slice e=>
    simp only[Bool.and_eq_true,Nat.blt_eq]at hr;obtain⟨⟨hr1,hr2⟩,hr3⟩:=hr;obtain⟨de,hde⟩:=Option.isSome_iff_exists.1 hr1;have hsze:=a3e ok hde;have hkey:cs=[.slice none 0 0]∨∃a len cap,cs=[.slice (some a) len cap]∧len≤cap∧cap≤maxLen∧
     ∃elems,((List.range len).mapM λi=>(w.cells? base (a.add (i*E.P.cellsOf e)) (E.P.cellsOf e)).bind (DataW.trod enc E.P w base spare held fuel e))=some elems:=by
     split at h
     all_goals first|(rename_i heq;cases heq;done)|(cases h;done)|skip
     ·left;rfl
     ·rename_i e' a len cap heq;cases heq;dsimp only at h;split at h
      case isFalse=>cases h
      rename_i hc;right;refine⟨a,len,cap,rfl,hc.2.1,hc.2.2,?_⟩;cases hm:((List.range len).mapM λi=>(w.cells? base (a.add (i*E.P.cellsOf e)) (E.P.cellsOf e)).bind (DataW.trod enc E.P w base spare held fuel e))with
      |none=>rw[hm]at h;simp at h
      |some elems=>exact⟨elems,rfl⟩
    rcases hkey with rfl|⟨a,len,cap,rfl,hlc,hcm,elems,hel⟩
    ·exact⟨[.nilslice],by simp[VRels,VRel],by simp only[Typ,hu];exact .inl trivial⟩
    ·have hrow:∀i,i<len→∃r,Typ E n e r∧r.length=E.sz e∧VAt (Old w) w noP r a.block (a.off+i*E.sz e)∧a.spot=none∧a.block<w.heap.size:=by
      have hat:∀i,i<len→∃cs' y,cs'.length=E.sz e∧(∀j,j<E.sz e→w.cell? ((a.add (i*E.sz e)).add j)=cs'[j]?)∧DataW.trod enc E.P w base spare held fuel e cs'=some y:=by
       intro i hi;obtain⟨y,hy⟩:=b6v hel i (by simpa using hi);rw[hsze]at hy;cases hc:w.cells? base (a.add (i*E.sz e)) (E.sz e)with
       |none=>rw[hc]at hy;simp at hy
       |some cs'=>rw[hc]at hy;obtain⟨_,h2,h3⟩:=World.cells?_some hc;exact⟨cs',y,h2,h3,by simpa using hy⟩
      intro i hi;have hspot:a.spot=none∧a.block<w.heap.size:=by
       obtain⟨cs0,y0,h1,h2,_⟩:=hat 0 (by omega);have h3:=h2 0 hr2;rw[Nat.zero_mul,show(a.add 0).add 0=a from by simp[Addr.add],z9e (by omega)]at h3;unfold World.cell? at h3;split at h3
       ·rename_i hb;refine⟨?_,(Array.getElem?_eq_some_iff.1 hb).1⟩;cases hs:a.spot with
        |none=>rfl
        |some _=>rw[hs]at h3;simp at h3
       ·cases h3
      obtain⟨cs',y,h1,h2,h3⟩:=hat i hi;obtain⟨r,q1,q2⟩:=ih e hr3 fuel cs' y h3;refine⟨r,q2,by rw[VRels.length q1,h1],b3w ?_ q1,hspot⟩;intro j v hv;have hj:j<E.sz e:=by rw[←h1];exact(List.getElem?_eq_some_iff.1 hv).1
      have:=h2 j hj;rw[hv]at this;rw[←this]
      congr 1
      obtain⟨ab,ao,as⟩:=a;obtain⟨rfl,_⟩:=hspot;unfold Addr.add;split<;>split<;>simp_all
     obtain⟨rows,g1,g2,g3⟩:=c60 (Pr:=Typ E n e) len a.off (λi hi=>by obtain⟨r,q1,q2,q3,_⟩:=hrow i hi;exact⟨r,q1,q2,q3⟩);refine⟨[.islice rows (some cap)],?_,by simp only[Typ,hu];exact .inr ⟨rows,cap,rfl,by omega,hcm,g2⟩⟩;simp only[VRels];refine⟨_,[],rfl,?_,rfl⟩;simp only[VRel];refine⟨a,cap,E.sz e,by rw[g1],by omega,by simp,?_⟩;cases len with
     |zero=>exact .inl (List.length_eq_zero_iff.1 g1)
     |succ len=>obtain⟨_,_,_,_,q4,q5⟩:=hrow 0 (by omega);exact .inr ⟨q4,q5,g3⟩
   case struct fs=>
    simp only[Bool.and_eq_true,List.all_eq_true]at hr;obtain⟨hr1,hr2⟩:=hr;split at hr1
    case h_2=>cases hr1
    rename_i m hm;have hmt:m=E.sz t:=by simpa using hr1
    have hkey:cs.length=E.P.cellsOf t∧∃xs,(fs.toList.mapM λf=>DataW.trod enc E.P w base spare held fuel f.type ((cs.drop f.offset).take (E.P.cellsOf f.type)))=some xs:=by
     dsimp only at h;split at h
     ·rename_i hl;obtain⟨xs,hxs,_⟩:=a08 h;exact⟨hl,xs,hxs⟩
     ·cases h
    obtain⟨hlen,xs,hxs⟩:=hkey;obtain⟨_,parts,h1,h2,h3⟩:=c2k (E:=E) (I:=Old w) (w:=w) (cs:=cs) (n:=n) fs.toList 0 hm (by omega) (λf hf=>by obtain⟨y,hy⟩:=b6v hxs f hf;have h2:=hr2 f hf;obtain⟨df,hdf⟩:=Option.isSome_iff_exists.1 h2.1;rw[a3e ok hdf]at hy;exact ih f.type h2.2 fuel _ _ hy);refine⟨parts.flatten,?_,by simp only[Typ,hu];exact⟨parts,rfl,h1,h2⟩⟩;rw[List.drop_zero,Nat.sub_zero,List.take_of_length_le (by omega)]at h3;exact h3
   case array m e=>
    simp only[Bool.and_eq_true]at hr;obtain⟨⟨hr1,hr2⟩,hr3⟩:=hr;obtain⟨de,hde⟩:=Option.isSome_iff_exists.1 hr1;have hsze:=a3e ok hde;have hmk:m*E.sz e=E.sz t:=by simpa using hr2
    have hkey:cs.length=E.P.cellsOf t∧∃xs,((List.range m).mapM λi=>DataW.trod enc E.P w base spare held fuel e ((cs.drop (i*E.P.cellsOf e)).take (E.P.cellsOf e)))=some xs:=by
     dsimp only at h;split at h
     ·rename_i hl;obtain⟨xs,hxs,_⟩:=a08 h;exact⟨hl,xs,hxs⟩
     ·cases h
    obtain⟨hlen,xs,hxs⟩:=hkey;obtain⟨parts,h1,h2,h3⟩:=d48 (E:=E) (I:=Old w) (w:=w) (cs:=cs) (n:=n) (k:=E.sz e) (e:=e) m 0 (by omega) (λi hi=>by obtain⟨y,hy⟩:=b6v hxs i (by simpa using hi);rw[hsze]at hy;rw[Nat.zero_add];exact ih e hr3 fuel _ _ hy);refine⟨parts.flatten,?_,by simp only[Typ,hu];exact⟨parts,rfl,h1,h2⟩⟩;rw[List.drop_zero,List.take_of_length_le (by omega)]at h3;exact h3
end
end Go.Ax
/- AxArgs: a row's arguments as abstract values. -/
namespace Go.Ax
def e5m(E:Env)(n:Nat)(t:TypeId)(av:AV):Prop:=
 match E.und t with
 |some d=>bif a21 d then ∃avs,av = .agg avs∧Typ E n t avs else Typ E n t [av]
 |none=>False
def d8a(E:Env)(n:Nat):List TypeId→List AV→Prop
 | [],avs=>avs=[]
 |t::ts,avs=>∃a r,avs=a::r∧e5m E n t a∧d8a E n ts r
section
variable {E:Env}{w:World}{H:Type}{enc:TypeId×Value→H}{spare:Nat→Bool}{held:Bool}{b0:Nat}
theorem e33(ok:EnvOk E){n:Nat}{t:TypeId}{v:Value}{d:DataW H}{ps:List MemPlace}(hr:a4b E n t=true)(hv:Value.okWide E.P w .any b0 t v)(h:DataW.Trod enc E.P w 0 spare held t v d ps) :
 ∃a,VRel (Old w) w noP a v∧e5m E n t a:=by
 obtain⟨fuel,hf⟩:=h;obtain⟨avs,h1,h2⟩:=c68 ok n t hr fuel _ _ hf;cases hu:E.und t with
 |none=>cases n<;>simp[a4b,hu]at hr
 |some dd=>
  have hP:=(ok.und t dd hu).1;unfold Value.okWide at hv;rw[hP]at hv;cases hag:a21 dd with
  |true=>
   have hv:∃cs,v = .agg cs∧cs.size=E.P.cellsOf t∧Row.okWide E.P w .any b0 t cs:=by cases dd<;>simp[a21]at hag<;>exact hv
   obtain⟨cs,rfl,_,_⟩:=hv;exact⟨.agg avs,by simp only[VRel];exact⟨cs,rfl,h1⟩,by simp only[e5m,hu,hag,cond_true];exact⟨avs,rfl,h2⟩⟩
  |false=>
   have hcell:v.cells = #[v]:=by
    cases v with
    |agg cs=>exfalso;cases dd<;>simp[a21]at hag<;>simp[Cell.okWide,Cell.ok,hP]at hv
    |_=>rfl
   rw[hcell]at h1;have h3:=h1;obtain⟨a,rfl⟩:∃a,avs=[a]:=by
    have:=VRels.length h1
    match avs,this with
    | [a],_=>exact⟨a,rfl⟩
   simp only[VRels]at h3;obtain⟨c,_,hc,h4,rfl⟩:=h3;simp only[List.cons.injEq,and_true]at hc;subst hc;exact⟨a,h4,by simp only[e5m,hu,hag,cond_false];exact h2⟩
theorem c8s(ok:EnvOk E){n:Nat}:∀(ts:List TypeId) (vs:List Value) (ds:List (DataW H)) (ps:List MemPlace),DataW.TrodAll enc E.P w 0 spare held ts vs ds ps→
 (∀(j:Nat) t v,ts[j]?=some t→vs[j]?=some v→Value.okWide E.P w .any b0 t v)→(ts.all (a4b E n))=true→∃args,VRels (Old w) w noP args vs∧d8a E n ts args
 | [],vs,ds,ps,h,_,_=>by
  cases vs with
  |nil=>exact⟨[],by simp[VRels],rfl⟩
  |cons v vs=>cases ds<;>simp[DataW.TrodAll]at h
 |t::ts,vs,ds,ps,h,hv,hr=>by
  cases vs with
  |nil=>cases ds<;>simp[DataW.TrodAll]at h
  |cons v vs=>
   cases ds with
   |nil=>simp[DataW.TrodAll]at h
   |cons d ds=>simp only[DataW.TrodAll]at h;obtain⟨p,q,h1,h2,_⟩:=h;simp only[List.all_cons,Bool.and_eq_true]at hr;obtain⟨a,g1,g2⟩:=e33 ok hr.1 (hv 0 t v rfl rfl) h1;obtain⟨r,g3,g4⟩:=c8s ok ts vs ds q h2 (λj t v ht hv'=>hv (j+1) t v (by simpa using ht) (by simpa using hv')) hr.2;exact⟨a::r,by simp only[VRels];exact⟨v,vs,rfl,g1,g3⟩,⟨a,r,rfl,g2,g4⟩⟩
end
end Go.Ax
/- AxLaid: what a listed package-level variable d5g as, as abstract cells. -/
namespace Go.Ax
def c39(E:Env)(f:TypeId→DataW Unit→Option (List AV)):Nat→List Field→List (DataW Unit)→Option (List AV)
 |_,[],[]=>some []
 |o,x::fs,d::ds=>bif Nat.beq x.offset o&&(E.und x.type).isSome then
  match f x.type d,c39 E f (o+E.sz x.type) fs ds with
  |some a,some b=>bif Nat.beq a.length (E.sz x.type)then some (a++b)else none
  |_,_=>none
  else none
 |_,_,_=>none
def b3d(k:Nat)(f:DataW Unit→Option (List AV)):List (DataW Unit)→Option (List (List AV))
 | []=>some []
 |d::ds=>match f d,b3d k f ds with
  |some a,some b=>bif Nat.beq a.length k then some (a::b)else none
  |_,_=>none
def b49(E:Env):Nat→TypeId→DataW Unit→Option (List AV)
 |0,_,_=>none
 |n+1,t,d=>match E.und t,d with
  |some .bool,.lit (.bool b)=>some [.bool b]
  |some (.int k),.lit (.int k' i)=>bif k==k' then some [.int k i]else none
  |some .string,.lit (.string s)=>some [.str s]
  |some (.struct fs),.agg ds=>match c39 E (b49 E n) 0 fs.toList ds with
   |some avs=>bif Nat.beq avs.length (E.sz t)then some avs else none
   |none=>none
  |some (.array m e),.agg ds=>bif (E.und e).isSome&&Nat.beq (m*E.sz e) (E.sz t)&&Nat.beq ds.length m then(b3d (E.sz e) (b49 E n e) ds).map List.flatten else none
  |some (.slice _),.nil=>some [.nilslice]
  |some (.slice e),.slice es spare=>bif (E.und e).isSome&&Nat.blt 0 (E.sz e)&&Nat.blt 0 es.length then(b3d (E.sz e) (b49 E n e) es).map λrows=>[.islice rows (some (es.length+spare.length))]else none
  |_,_=>none
section
variable {E:Env}{w:World}{enc:TypeId×Value→Unit}{base:Nat}{held:Bool}
theorem a67{α β:Type}{f:α→Option β}{a:α}{l:List α}{r:List β}(h:(a::l).mapM f=some r):∃b r',f a=some b∧l.mapM f=some r'∧r=b::r':=by
 rw[List.mapM_cons]at h;cases hfa:f a with
 |none=>simp[hfa]at h
 |some y=>
  simp only[hfa,Option.bind_eq_bind,Option.bind_some]at h;cases hl:l.mapM f with
  |none=>simp[hl]at h
  |some r'=>simp only[hl,Option.bind_some]at h;cases h;exact⟨y,r',rfl,rfl,rfl⟩
theorem b6t{α β:Type}{f:α→Option β}:∀{l:List α} {r:List β},l.mapM f=some r→r.length=l.length
 | [],r,h=>by cases h;rfl
 |a::l,r,h=>by obtain⟨b,r',_,h2,rfl⟩:=a67 h;simp[b6t h2]
theorem b6u{α β:Type}{f:α→Option β}:∀{l:List α} {r:List β},l.mapM f=some r→∀(i:Nat) a,l[i]?=some a→∃b,f a=some b∧r[i]?=some b
 | [],r,h,i,a,ha=>by simp at ha
 |x::l,r,h,i,a,ha=>by
  obtain⟨b,r',h1,h2,rfl⟩:=a67 h;cases i with
  |zero=>simp only[List.getElem?_cons_zero,Option.some.injEq]at ha;subst ha;exact⟨b,h1,rfl⟩
  |succ i=>simp only[List.getElem?_cons_succ]at ha⊢;exact b6u h2 i a ha
theorem b08{k:Nat}{f:DataW Unit→Option (List AV)}:∀{ds:List (DataW Unit)} {rows:List (List AV)},b3d k f ds=some rows→rows.length=ds.length
 | [],rows,h=>by cases h;rfl
 |d::ds,rows,h=>by
  simp only[b3d]at h;split at h
  case h_2=>cases h
  rename_i a b ha hb;rw[cond_eq_ite]at h;split at h
  ·cases h;simp[b08 hb]
  ·cases h
theorem b09{k:Nat}{f:DataW Unit→Option (List AV)}:∀{ds:List (DataW Unit)} {rows:List (List AV)},b3d k f ds=some rows→∀(i:Nat) d,ds[i]?=some d→∃a,f d=some a∧a.length=k∧rows[i]?=some a
 | [],rows,h,i,d,hd=>by simp at hd
 |x::ds,rows,h,i,d,hd=>by
  simp only[b3d]at h;split at h
  case h_2=>cases h
  rename_i a b ha hb;rw[cond_eq_ite]at h;split at h
  case isFalse=>cases h
  rename_i hk;cases h;cases i with
  |zero=>simp only[List.getElem?_cons_zero,Option.some.injEq]at hd;subst hd;exact⟨a,ha,by simpa using hk,rfl⟩
  |succ i=>simp only[List.getElem?_cons_succ]at hd⊢;exact b09 hb i d hd
theorem b3i{I:Nat→Prop}{cs:List Value}{f:TypeId→DataW Unit→Option (List AV)}{g:Field→Option (DataW Unit×List MemPlace)}
 (hg:∀x y avs,g x=some y→f x.type y.1=some avs→VRels I w noP avs ((cs.drop x.offset).take (E.sz x.type))) :
 ∀(fs:List Field) (o:Nat) {xs:List (DataW Unit×List MemPlace)} {avs:List AV},fs.mapM g=some xs→c39 E f o fs (xs.map (·.1))=some avs→VRels I w noP avs ((cs.drop o).take avs.length)
 | [],o,xs,avs,hm,hf=>by cases hm;cases hf;simp[VRels]
 |x::fs,o,xs,avs,hm,hf=>by
  obtain⟨y,ys,h1,h2,rfl⟩:=a67 hm;simp only[List.map_cons,c39]at hf;rw[cond_eq_ite]at hf;split at hf
  case isFalse=>cases hf
  rename_i hc;simp only[Bool.and_eq_true,Nat.beq_eq]at hc;split at hf
  case h_2=>cases hf
  rename_i a b ha hb;rw[cond_eq_ite]at hf;split at hf
  case isFalse=>cases hf
  rename_i hl;rw[Nat.beq_eq]at hl;cases hf;have ih:=b3i hg fs _ h2 hb;have h3:=hg x y a h1 ha;rw[hc.1,←hl]at h3;rw[List.length_append,List.take_add,List.drop_drop,hl]at *;exact VRels.append h3 ih
theorem b8e{I:Nat→Prop}{cs:List Value}{k:Nat}:∀(rows:List (List AV)) (o:Nat),(∀(i:Nat) r,rows[i]?=some r→r.length=k∧VRels I w noP r ((cs.drop (o+i*k)).take k))→
 VRels I w noP rows.flatten ((cs.drop o).take (rows.length*k))
 | [],o,_=>by simp[VRels]
 |r::rows,o,h=>by have h0:=h 0 r rfl;have ih:=b8e rows (o+k) (λi r hr=>by have:=h (i+1) r (by simpa using hr);rw[show o+k+i*k=o+(i+1)*k by rw[Nat.add_mul];omega];exact this);simp only[List.flatten_cons,List.length_cons];rw[show(rows.length+1)*k=k+rows.length*k by rw[Nat.add_mul];omega,List.take_add,List.drop_drop];refine VRels.append ?_ ih;simpa using h0.2
theorem b92(ok:EnvOk E):∀(n:Nat) (t:TypeId) (fuel:Nat) (cs:List Value) (x:DataW Unit×List MemPlace) (avs:List AV),DataW.trod enc E.P w base (λ_=>true) held fuel t cs=some x→b49 E n t x.1=some avs→
 VRels (Old w) w noP avs cs
 |0,t,fuel,cs,x,avs,_,hf=>by simp[b49]at hf
 |n+1,t,0,cs,x,avs,h,hf=>by simp[DataW.trod]at h
 |n+1,t,fuel+1,cs,x,avs,h,hf=>by
  have ih:=b92 ok n;unfold b49 at hf;unfold DataW.trod at h;cases hu:E.und t with
  |none=>rw[hu]at hf;simp at hf
  |some dd=>
   have hP:=(ok.und t dd hu).1;have hszt:=a3e ok hu;rw[hu]at hf;rw[hP]at h;cases dd
   case bool=>
    obtain⟨b,rfl,rfl⟩:∃b,cs=[.bool b]∧x=(.lit (.bool b),[]):=by split at h<;>simp_all
    simp only[Option.some.injEq]at hf;subst hf;simp[VRels,VRel]
   case int k=>
    obtain⟨b,rfl,rfl⟩:∃b,cs=[.int k b]∧x=(.lit (.int k b),[]):=by split at h<;>simp_all
    simp only[cond_eq_ite]at hf;split at hf
    ·cases hf;simp[VRels,VRel]
    ·cases hf
   case string=>
    obtain⟨b,rfl,rfl⟩:∃b:ByteArray,cs=[.string b]∧x=(.lit (.string b.data.toList),[]):=by split at h<;>simp_all
    simp only[Option.some.injEq]at hf;subst hf;simp[VRels,VRel]
   case struct fs=>
    dsimp only at h;split at h
    case isFalse=>cases h
    rename_i hl;obtain⟨xs,hxs,rfl⟩:=a08 h;dsimp only at hf;split at hf
    case h_2=>cases hf
    rename_i avs' hff;rw[cond_eq_ite]at hf;split at hf
    case isFalse=>cases hf
    rename_i hl2;rw[Nat.beq_eq]at hl2;cases hf;have key:=b3i (E:=E) (I:=Old w) (w:=w) (cs:=cs) (f:=b49 E n)
     (g:=λf=>DataW.trod enc E.P w base (λ_=>true) held fuel f.type ((cs.drop f.offset).take (E.P.cellsOf f.type))) ?_ fs.toList 0 hxs hff
    ·rw[List.drop_zero,List.take_of_length_le (by omega)]at key;exact key
    ·intro x y avs hy hfa;have hund:∃dx,E.und x.type=some dx:=by
      cases n with
      |zero=>simp[b49]at hfa
      |succ n=>unfold b49 at hfa;cases hux:E.und x.type with
       |none=>rw[hux]at hfa;simp at hfa
       |some dx=>exact⟨dx,rfl⟩
     obtain⟨dx,hdx⟩:=hund;rw[a3e ok hdx]at hy;exact ih x.type fuel _ y avs hy hfa
   case array m e=>
    dsimp only at h;split at h
    case isFalse=>cases h
    rename_i hl;obtain⟨xs,hxs,rfl⟩:=a08 h;dsimp only at hf;rw[cond_eq_ite]at hf;split at hf
    case isFalse=>cases hf
    rename_i hc;simp only[Bool.and_eq_true,Nat.beq_eq]at hc;obtain⟨rows,hrows,rfl⟩:=a08 hf;obtain⟨de,hde⟩:=Option.isSome_iff_exists.1 hc.1.1;have hsze:=a3e ok hde;have hlen:rows.length=m:=by rw[b08 hrows];simpa using hc.2
    have key:=b8e (I:=Old w) (w:=w) (cs:=cs) (k:=E.sz e) rows 0 (λi r hr=>by
     have hi:i<m:=by rw[←hlen];exact(List.getElem?_eq_some_iff.1 hr).1
     obtain⟨y,hy,hyi⟩:=b6u hxs i i (by simp[hi]);obtain⟨a,ha,hal,hai⟩:=b09 hrows i y.1 (by simp[hyi]);rw[hr]at hai;cases hai;refine⟨hal,?_⟩;rw[Nat.zero_add];rw[hsze]at hy;exact ih e fuel _ y r hy ha)
    rw[List.drop_zero,List.take_of_length_le (by rw[hlen];omega)]at key;exact key
   case slice e=>
    split at h
    all_goals first|(rename_i heq;cases heq;done)|(cases h;done)|skip
    ·cases h;simp only[Option.some.injEq]at hf;subst hf;simp[VRels,VRel]
    ·rename_i e' a len cap heq;cases heq;dsimp only at h;split at h
     case isFalse=>cases h
     rename_i hc;cases hm:((List.range len).mapM λi=>(w.cells? base (a.add (i*E.P.cellsOf e)) (E.P.cellsOf e)).bind (DataW.trod enc E.P w base (λ_=>true) held fuel e))with
     |none=>rw[hm]at h;simp at h
     |some elems=>
      rw[hm]at h;simp only[Option.bind_some,if_true]at h;obtain⟨rest,hrest,rfl⟩:=a08 h;dsimp only at hf;rw[cond_eq_ite]at hf;split at hf
      case isFalse=>cases hf
      rename_i hc2;simp only[Bool.and_eq_true,Nat.blt_eq,List.length_map]at hc2;obtain⟨rows,hrows,rfl⟩:=a08 hf;obtain⟨de,hde⟩:=Option.isSome_iff_exists.1 hc2.1.1;have hsze:=a3e ok hde;have hlr:rows.length=elems.length:=by rw[b08 hrows];simp
      have hle:elems.length=len:=by rw[b6t hm];simp
      have hlrest:rest.length=cap-len:=by rw[b6t hrest];simp
      have hat:∀i,i<len→∃cs' y,elems[i]?=some y∧cs'.length=E.sz e∧(∀j,j<E.sz e→w.cell? ((a.add (i*E.sz e)).add j)=cs'[j]?)∧DataW.trod enc E.P w base (λ_=>true) held fuel e cs'=some y:=by
       intro i hi;obtain⟨y,hy,hyi⟩:=b6u hm i i (by simp[hi]);rw[hsze]at hy;cases hcs:w.cells? base (a.add (i*E.sz e)) (E.sz e)with
       |none=>rw[hcs]at hy;simp at hy
       |some cs'=>rw[hcs]at hy;obtain⟨_,h2,h3⟩:=World.cells?_some hcs;exact⟨cs',y,hyi,h2,h3,by simpa using hy⟩
      have hspot:a.spot=none∧a.block<w.heap.size:=by
       obtain⟨cs0,y0,_,h1,h2,_⟩:=hat 0 (by omega);have h3:=h2 0 hc2.1.2;rw[Nat.zero_mul,show(a.add 0).add 0=a from by simp[Addr.add],z9e (by omega)]at h3;unfold World.cell? at h3;split at h3
       ·rename_i hb;refine⟨?_,(Array.getElem?_eq_some_iff.1 hb).1⟩;cases hs:a.spot with
        |none=>rfl
        |some _=>rw[hs]at h3;simp at h3
       ·cases h3
      simp only[VRels];refine⟨_,[],rfl,?_,rfl⟩;simp only[VRel];refine⟨a,cap,E.sz e,by rw[hlr,hle],by omega,λn hn=>by cases hn;simp;omega,.inr ⟨hspot.1,hspot.2,?_⟩⟩;have key:∀(rows':List (List AV)) (o:Nat),(∀(i:Nat) r,rows'[i]?=some r→r.length=E.sz e∧VAt (Old w) w noP r a.block (a.off+(o+i)*E.sz e))→VRows (Old w) w (E.sz e) noP rows' a.block (a.off+o*E.sz e):=by
       intro rows'
       induction rows' with
       |nil=>intro o _;simp[VRows]
       |cons r rs ihr=>intro o hh;have h0:=hh 0 r rfl;simp only[VRows];refine⟨h0.1,by simpa using h0.2,?_⟩;rw[show a.off+o*E.sz e+E.sz e=a.off+(o+1)*E.sz e by rw[Nat.add_mul];omega];refine ihr (o+1) (λi r hr=>?_);have:=hh (i+1) r (by simpa using hr);rw[show o+1+i=o+(i+1) by omega];exact this
      have:=key rows 0 (λi r hr=>by
       have hi:i<len:=by rw[←hle,←hlr];exact(List.getElem?_eq_some_iff.1 hr).1
       obtain⟨cs',y,h0,h1,h2,h3⟩:=hat i hi;obtain⟨av,ha,hal,hai⟩:=b09 hrows i y.1 (by simp[h0]);rw[hr]at hai;cases hai;refine⟨hal,?_⟩;rw[Nat.zero_add];refine b3w ?_ (ih e fuel _ y r h3 ha);intro j v hv;have hj:j<E.sz e:=by rw[←h1];exact(List.getElem?_eq_some_iff.1 hv).1
       have:=h2 j hj;rw[hv]at this;rw[←this]
       congr 1
       obtain⟨ab,ao,as⟩:=a;obtain⟨rfl,_⟩:=hspot;unfold Addr.add;split<;>split<;>simp_all)
      simpa using this
   all_goals (simp only at hf;first|(cases hf;done)|(split at hf<;>cases hf))
theorem holds_of_laid(ok:EnvOk E){laid:List (String×DataW Unit)}(h:laidMet E.P laid w)
 (hG:∀g cs,E.G g=some cs→∃x∈laid,E.P.globalNamed x.1=some g∧∃t,(E.P.globals[g]?).map (·.type)=some t∧b49 E 8 t x.2=some cs):Holds E w:=by
 obtain⟨ps,hv,hnd,hcell⟩:=h;have hall:∀(l:List (String×DataW Unit)) ps,DataW.LaidVars E.P w l ps→∀x∈l,∃g t cs fuel p,E.P.globalNamed x.1=some g∧(E.P.globals[g]?).map (·.type)=some t∧w.var? E.P x.1=some cs∧DataW.trod (λ_=>()) E.P w 0 (λ_=>true) false fuel t cs.toList=some (x.2,p):=by
  intro l
  induction l with
  |nil=>intro ps _ x hx;simp at hx
  |cons y r ih=>
   intro ps hv x hx;obtain⟨n,d⟩:=y;simp only[DataW.LaidVars]at hv;obtain⟨g,t,cs,fuel,p,q,h1,h2,h3,h4,h5,_⟩:=hv;simp only[List.mem_cons]at hx;rcases hx with rfl|hx
   ·exact⟨g,t,cs,fuel,p,h1,h2,h3,h4⟩
   ·exact ih q h5 x hx
 intro g cs hg;obtain⟨x,hx,h1,t,h2,h3⟩:=hG g cs hg;obtain⟨g',t',cs',fuel,p,k1,k2,k3,k4⟩:=hall laid ps hv x hx;obtain rfl:g'=g:=z9o (k1.symm.trans h1);obtain rfl:t'=t:=z9o (k2.symm.trans h2);have hr:=b92 ok 8 t' fuel _ (x.2,p) cs k4 h3;unfold World.var? at k3;rw[k1]at k3;simp only[Option.bind_some]at k3;split at k3
 case h_2=>cases k3
 rename_i cs2 e fz hheap;cases k3;refine⟨(Array.getElem?_eq_some_iff.1 hheap).1,?_⟩;refine VAt.of_cells (cs:=cs'.toList) (CellsAt.of_heap hheap ?_) hr;intro j v hv;simpa using hv
end
end Go.Ax
/- AxLaw: from a run of a law's body that answers true, for all typed arguments, to what a row asks. -/
namespace Go.Ax
open Go.ChangeShapes Go.WideShapes Go.RowKit
section
variable {E:Env}{H:Type}{enc:TypeId×Value→H}
theorem a8d{P:Program}(hl:laidOutB P=true){W W':World}(hb:Below W.heap.size W W'){sp:Nat→Bool}:∀(ts:List TypeId) (vs:List Value) (ds:List (DataW H)) (ps:List MemPlace),
 (ts.all λt=>P.readableRec t&&decide (t<P.types.size))=true→(∀p∈ps,p.block<W.heap.size)→(∀p∈ps,sp p.block=true)→
 DataW.TrodAll enc P W 0 (λ_=>true) true ts vs ds ps→DataW.TrodAll enc P W' 0 sp true ts vs ds ps
 | [],vs,ds,ps,_,_,_,h=>by cases vs<;>cases ds<;>simp only[DataW.TrodAll]at h⊢<;>exact h
 |t::ts,vs,ds,ps,hr,hlt,hs,h=>by
  cases vs with
  |nil=>simp[DataW.TrodAll]at h
  |cons v vs=>
   cases ds with
   |nil=>simp[DataW.TrodAll]at h
   |cons d ds=>simp only[DataW.TrodAll]at h⊢;obtain⟨p,q,h1,h2,rfl⟩:=h;simp only[List.all_cons,Bool.and_eq_true,decide_eq_true_eq]at hr;refine⟨p,q,?_,a8d hl hb ts vs ds q hr.2 (λx hx=>hlt x (by simp[hx])) (λx hx=>hs x (by simp[hx])) h2,rfl⟩;exact WideElems.Trod_stays hl hr.1.1 hr.1.2 h1 (λx hx=>hb.same (hlt x (by simp[hx]))) (λx hx=>hs x (by simp[hx]))
theorem d0q{P:Program}(hl:laidOutB P=true){f:Func}{s:ChangeSpec}(hvs:s.vars=[]){n:Nat}(hn:f.params.toList.length=n)
 (hs:∀ds:List (DataW H),ds.length=n→(s.fn H ds).results=[.lit (.bool true)]∧(s.fn H ds).args=ds∧(s.fn H ds).vars=[]){tb:TypeId}(hres:f.resultTypes = #[tb])(htb:P.underlying tb=some .bool)
 (hpar:(f.params.toList.all λt=>P.readableRec t&&decide (t<P.types.size))=true)
 {W W':World}{args:Array Value}{ds gs:List (DataW H)}{before:List MemPlace}(hW:DataW.Whole enc P f.params.toList s.vars false W args.toList ds gs before)(hb:Below W.heap.size W W') :
 s.post enc P f false true false false W args (.bool true) W':=by
 have hlt:∀p∈before,p.block<W.heap.size:=λp hp=>hW.lt p hp;have hold:∀p∈before,(λb=>decide (b<W.heap.size)) p.block=true:=λp hp=>by simpa using hlt p hp
 have hW0:=hW;obtain⟨p,q,hA,hV,rfl,hz,hnd⟩:=hW;rw[hvs]at hV;obtain⟨rfl,rfl⟩:=trodVars_none hV;have hlen:ds.length=n:=by
  have:∀(ts:List TypeId) (vs:List Value) (ds:List (DataW H)) (ps:List MemPlace),DataW.TrodAll enc P W 0 (λ_=>true) true ts vs ds ps→ds.length=ts.length:=by
   intro ts
   induction ts with
   |nil=>intro vs ds ps h;cases vs<;>cases ds<;>simp[DataW.TrodAll]at h<;>rfl
   |cons t ts ih=>
    intro vs ds ps h;cases vs with
    |nil=>simp[DataW.TrodAll]at h
    |cons v vs=>cases ds with
     |nil=>simp[DataW.TrodAll]at h
     |cons d ds=>simp only[DataW.TrodAll]at h;obtain⟨p,q,_,h2,_⟩:=h;simp[ih vs ds q h2]
  rw[this _ _ _ _ hA,hn]
 obtain⟨s1,s2,s3⟩:=hs (ds++[]) (by simpa using hlen);rw[List.append_nil]at hlt hold;have hargs:∀sp:Nat→Bool,(∀x∈p,sp x.block=true)→DataW.TrodAll enc P W' 0 sp true f.params.toList args.toList (s.fn H (ds++[])).args p:=by intro sp hsp;rw[s2,List.append_nil];exact a8d hl hb _ _ _ _ hpar hlt hsp hA
 have hvars:∀sp:Nat→Bool,DataW.TrodVars enc P W' sp s.vars (s.fn H (ds++[])).vars []:=by intro sp;rw[s3,hvs];rfl
 have hr1:∀(b:Nat) (sp:Nat→Bool) (hd:Bool),DataW.TrodAll enc P W' b sp hd f.resultTypes.toList ((Value.bool true).resultList f.resultTypes.size) (s.fn H (ds++[])).results []:=by intro b sp hd;rw[s1,hres];exact⟨[],[],⟨1,by simp[DataW.trod,htb,Value.cells]⟩,rfl,rfl⟩
 refine⟨ds,[],p++[],[],p,[],hW0,hr1 _ _ _,hargs _ hold,hvars _,World.keptBut_mono (λx hx=>⟨hx,?_⟩) (hb.frame (·∈p++[])),λ_=>?_⟩
 ·simpa using hx
 ·refine⟨?_,_,_,([]++p)++[],⟨[]++p,[],trodAll_append (hargs _ (λ_ _=>rfl)) (hr1 _ _ _),hvars _,rfl,?_,?_⟩,?_⟩
  ·intro j t r hj hv;rw[hres]at hj hv
   match j,hj,hv with
   |0,hj,hv=>simp[Value.resultList]at hj hv;subst hj;subst hv;exact okWide_bool_mk htb true
  ·intro b off hp;have hin:MemPlace.cell b off∈p:=by simpa using hp
   rw[hb.frozen (hlt _ hin)];exact hz b off (by simpa using hin)
  ·intro ha;cases ha
  ·intro x hx _;simpa using hx
theorem law_contract(ok:EnvOk E)(hl:laidOutB E.P=true){f:FuncId}{fn:Func}{run:List AV→a04→Option (AV×a04)}(hfy:f≠yId)(hf:a9j E f run){m:Nat}
 (hread:(fn.params.toList.all (a4b E m))=true)(hrun:∀args,d8a E m fn.params.toList args→∃H',run args []=some (.bool true,H'))
 {s:ChangeSpec}(hvs:s.vars=[]){n:Nat}(hn:fn.params.toList.length=n)
 (hs:∀ds:List (DataW H),ds.length=n→(s.fn H ds).results=[.lit (.bool true)]∧(s.fn H ds).args=ds∧(s.fn H ds).vars=[]){tb:TypeId}(hres:fn.resultTypes = #[tb])(htb:E.P.underlying tb=some .bool)
 (hpar:(fn.params.toList.all λt=>E.P.readableRec t&&decide (t<E.P.types.size))=true)
 (W:World)(base:Nat)(args:Array Value)(ds gs:List (DataW H))(before:List MemPlace)
 (hval:∀(j:Nat) t v,fn.params[j]?=some t→args[j]?=some v→Value.okWide E.P W .any base t v)
 (hW:DataW.Whole enc E.P fn.params.toList s.vars false W args.toList ds gs before)(hG:Holds E W) :
 Calls E.P f args W λe W'=>∃v,e = .returned v∧s.post enc E.P fn false true false false W args v W':=by
 have hA:=hW;obtain⟨p,q,hA,_⟩:=hA;obtain⟨avs,h1,h2⟩:=c8s (b0:=base) ok (n:=m) fn.params.toList args.toList ds p hA (λj t v ht hv=>hval j t v (by simpa using ht) (by simpa using hv)) hread;obtain⟨H',hr⟩:=hrun avs h2;have:=c9s hfy hf hr hG h1;rw[Array.toArray_toList]at this;refine this.mono ?_
 rintro e W' ⟨rfl,hb⟩
 exact⟨_,rfl,d0q hl hvs hn hs hres htb hpar hW hb⟩
end
end Go.Ax
/- AxSem: what a call comes to, a59 fuel for the calls: a function 'sem', closed under running a body over itself. No condition. -/
namespace Go.Ax
abbrev CallF:=FuncId→List AV→a04→Option (AV×a04)
def CallF.le(c c':CallF):Prop:=∀g a H r,c g a H=some r→c' g a H=some r
theorem a77{r r':List AV→a04→Option (AV×a04)}(h:∀a H x,r a H=some x→r' a H=some x){args:List AV}{H:a04}{x:AV×a04×List Nat}
 (hc:a1i r args H=some x):a1i r' args H=some x:=by
 unfold a1i at hc⊢;simp only at hc⊢;rw[cond_eq_ite]at hc⊢;split at hc
 case isFalse=>cases hc
 rename_i h1;rw[if_pos h1];split at hc
 case h_2=>cases hc
 rename_i v H1 hr;rw[h _ _ _ hr];exact hc
theorem b8w{r r':List AV→a04→Option (AV×a04)}(h:∀a H x,r a H=some x→r' a H=some x){args:List AV}{H:a04}{x:AV×a04×List Nat}
 (hc:a80 r args H=some x):a80 r' args H=some x:=by
 unfold a80 at hc⊢;split at hc
 case h_2=>cases hc
 rename_i args' h1;split at hc
 case h_2=>cases hc
 rename_i v H1 hr;rw[h _ _ _ hr];exact hc
section
variable {E:Env}{draw:Bool}{N:Nat}{c c':CallF}(hc:CallF.le c c')
include hc
theorem c4z{f:AV}{args:List AV}{H:a04}{x:AV×a04×List Nat}(h:a0d E draw c f args H=some x):a0d E draw c' f args H=some x:=by
 unfold a0d at h⊢;split at h
 case h_3=>cases h
 case h_2=>
  split at h
  case h_2=>cases h
  rename_i v H' σ hr;rw[a77 (λa H x=>hc yId a H x) hr];exact h
 rename_i g fs cs;rw[cond_eq_ite]at h⊢;split at h
 ·rename_i h1;rw[if_pos h1];rw[cond_eq_ite]at h⊢;split at h
  ·rename_i h2;rw[if_pos h2];exact b8w (λa H x=>hc g a H x) h
  ·rename_i h2;rw[if_neg h2];exact h
 ·rename_i h1;rw[if_neg h1];rw[cond_eq_ite]at h⊢;split at h
  case isFalse=>cases h
  rename_i h2;rw[if_pos h2];split at h
  case h_2=>cases h
  rename_i v H' σ hr;rw[a77 (λa H x=>hc g a H x) hr];exact h
theorem c0m{F:Frm}{H:a04}{op:Op}{x:AV×a04×LogE}(h:a0n E draw c F H op=some x):a0n E draw c' F H op=some x:=by
 unfold a0n at h⊢;split at h
 ·split at h
  case h_2=>cases h
  rename_i v H' σ hr;rw[c4z hc hr];exact h
 ·exact h
theorem b29{R:Type}{all:List Oper}{k k':Frm→a04→Option R}(hk:∀F H r,k F H=some r→k' F H=some r):∀(ops:List Oper) (log:List LogE) (F:Frm) (H:a04) {r:R},
 a22 E draw N c all ops log F H k=some r→a22 E draw N c' all ops log F H k'=some r:=by
 intro ops
 induction ops with
 |nil=>
  intro log F H r h;unfold a22 at h⊢;rw[cond_eq_ite]at h⊢;split at h
  case isFalse=>cases h
  rename_i h1;rw[if_pos h1];exact hk _ _ _ h
 |cons o rest ih=>
  have step:∀(log:List LogE) (F F':Frm) (H:a04) (op:Op) (r:R),(match a0n E draw c F H op with
   |some (v,H',l)=>a22 E draw N c all rest (l::log) (a2w F' o.dst v) H' k
   |none=>none)=some r→(match a0n E draw c' F H op with
   |some (v,H',l)=>a22 E draw N c' all rest (l::log) (a2w F' o.dst v) H' k'
   |none=>none)=some r:=by
   intro log F F' H op r h;split at h
   case h_2=>cases h
   rename_i v H' l hs;rw[c0m hc hs];exact ih _ _ _ h
  intro log F H r h;unfold a22 at h⊢;rw[cond_eq_ite]at h⊢;split at h
  case isFalse=>cases h
  rename_i h1;rw[if_pos h1];split at h
  ·exact step _ _ _ _ _ _ h
  ·rename_i j want hg;split at h
   ·cases h
   ·rename_i d hd;split at h
    ·rename_i b hb;rw[cond_eq_ite]at h⊢;split at h
     ·rename_i hbt;rw[if_pos hbt];rw[cond_eq_ite]at h⊢;split at h
      ·rename_i hw;rw[if_pos hw];exact step _ _ _ _ _ _ h
      ·rename_i hw;rw[if_neg hw];exact ih _ _ _ h
     ·rename_i hbt;rw[if_neg hbt];rw[cond_eq_ite]at h⊢;split at h
      ·rename_i hw;rw[if_pos hw];exact ih _ _ _ h
      ·rename_i hw;rw[if_neg hw];exact step _ _ _ _ _ _ h
    ·exact ih _ _ _ h
    ·cases h
omit hc in
theorem b58{m0:Nat}{keep:List Nat}{R:Type}{b b':Frm→a04→(AExit→Frm→a04→Option R)→Option R}
 (hb:∀F H (k k':AExit→Frm→a04→Option R),(∀e F H r,k e F H=some r→k' e F H=some r)→∀r,b F H k=some r→b' F H k'=some r):∀(n n':Nat),n≤n'→∀(F:Frm) (H:a04) (k k':AExit→Frm→a04→Option R),(∀e F H r,k e F H=some r→k' e F H=some r)→∀{r:R},
 b15 m0 keep b n F H k=some r→b15 m0 keep b' n' F H k'=some r
 |0,_,_,F,H,k,k',_,r,h=>by simp[b15]at h
 |n+1,0,hn,F,H,k,k',_,r,h=>by omega
 |n+1,n'+1,hn,F,H,k,k',hk,r,h=>by
  unfold b15 at h⊢;simp only at h⊢;rw[cond_eq_ite]at h⊢;split at h
  case isFalse=>cases h
  rename_i h1;rw[if_pos h1];refine hb _ _ _ _ ?_ r h;intro e F H r h;cases e with
  |normal=>exact b58 hb n n' (by omega) F H k k' hk h
  |exit id=>exact hk _ _ _ _ h
  |ret=>exact hk _ _ _ _ h
omit hc in
theorem b2b{m0 it:Nat}{keep:List Nat}{ks acc:List Int}{b b':Frm→a04→(AExit→Frm→a04→Option R3)→Option R3}
 (hb:∀F H (k k':AExit→Frm→a04→Option R3),(∀e F H r,k e F H=some r→k' e F H=some r)→∀r,b F H k=some r→b' F H k'=some r){a:Option Int}{F:Frm}{H:a04}{x:R3}(h:a7t m0 it keep ks acc b a F H=some x):a7t m0 it keep ks acc b' a F H=some x:=by
 unfold a7t at h⊢;split at h
 case h_2=>cases h
 rename_i F1 H1 hg;split at h
 case h_2=>cases h
 rename_i H2 ha;exact hb _ _ _ _ (λ_ _ _ _ h=>h) _ h
omit hc in
theorem b2j{m0 it:Nat}{keep:List Nat}{ks:List Int}{b b':Frm→a04→(AExit→Frm→a04→Option R3)→Option R3}
 (hb:∀F H (k k':AExit→Frm→a04→Option R3),(∀e F H r,k e F H=some r→k' e F H=some r)→∀r,b F H k=some r→b' F H k'=some r):∀{o acc:List Int} {F:Frm} {H:a04} {x:R3},a30 m0 it keep ks b acc o F H=some x→a30 m0 it keep ks b' acc o F H=some x
 | [],acc,F,H,x,h=>by
  unfold a30 at h⊢;split at h
  ·cases h
  ·rename_i e F' H' hne hr;rw[b2b hb hr];cases e with
   |normal=>exact(hne rfl).elim
   |exit id=>exact h
   |ret=>exact h
  ·cases h
 |i::o,acc,F,H,x,h=>by
  unfold a30 at h⊢;split at h
  case h_2=>cases h
  rename_i F' H' hr;rw[b2b hb hr];exact b2j hb h
omit hc in
theorem c4d{m0 it:Nat}{keep:List Nat}{R:Type}{b b':Frm→a04→(AExit→Frm→a04→Option R3)→Option R3}
 (hb:∀F H (k k':AExit→Frm→a04→Option R3),(∀e F H r,k e F H=some r→k' e F H=some r)→∀r,b F H k=some r→b' F H k'=some r){F:Frm}{H:a04}{k k':AExit→Frm→a04→Option R}(hk:∀e F H r,k e F H=some r→k' e F H=some r){r:R}
 (h:b8k m0 it keep b F H k=some r):b8k m0 it keep b' F H k'=some r:=by
 unfold b8k at h⊢;split at h
 case h_2=>cases h
 rename_i ks hks;split at h
 case h_2=>cases h
 rename_i r0 rs hmap;rw[cond_eq_ite]at h;split at h
 case isFalse=>cases h
 rename_i hall;have hm:(a6x ks).map (λo=>a30 m0 it keep ks b' [] o F H)=some r0::rs:=by
  rw[←hmap];refine List.map_congr_left λo ho=>?_;have hm:=List.mem_map_of_mem (f:=λo=>a30 m0 it keep ks b [] o F H) ho;rw[hmap]at hm;have he:a30 m0 it keep ks b [] o F H=some r0:=by
   rcases List.mem_cons.1 hm with h|h
   ·exact h
   ·exact c2d (List.all_eq_true.1 hall _ h)
  rw[he];exact b2j hb he
 rw[hm];simp only[hall,cond_true];exact hk _ _ _ _ h
theorem a9f{m0 lf lf':Nat}(hl:lf≤lf'){keep:Nat→List Nat}:∀(code:Code) {R:Type} (cur:Nat) (F:Frm) (H:a04) (k k':AExit→Frm→a04→Option R),(∀e F H r,k e F H=some r→k' e F H=some r)→∀{r:R},
 a2t E m0 N keep c lf cur code F H k=some r→a2t E m0 N keep c' lf' cur code F H k'=some r:=by
 intro code
 induction code with
 |skip=>intro R cur F H k k' hk r h;unfold a2t at h⊢;exact hk _ _ _ _ h
 |label l=>intro R cur F H k k' hk r h;unfold a2t at h⊢;exact hk _ _ _ _ h
 |exit id=>intro R cur F H k k' hk r h;unfold a2t at h⊢;exact hk _ _ _ _ h
 |ret=>intro R cur F H k k' hk r h;unfold a2t at h⊢;exact hk _ _ _ _ h
 |region id ops draw=>
  intro R cur F H k k' hk r h;unfold a2t at h⊢;cases hn:c5f ops.toList with
  |none=>rw[hn]at h;exact b29 hc (λF H r h=>hk _ _ _ _ h) _ _ _ _ h
  |some x=>
   obtain⟨it,nx,rest⟩:=x;rw[hn]at h;simp only[cond_eq_ite]at h⊢;split at h
   case isTrue=>cases h
   rename_i h1;rw[if_neg h1];split at h
   case h_2=>cases h
   rename_i v H' hx;exact b29 hc (λF H r h=>hk _ _ _ _ h) _ _ _ _ h
 |seq x y ihx ihy=>
  intro R cur F H k k' hk r h;unfold a2t at h⊢;refine ihx _ _ _ _ _ ?_ h;intro e F H r h;cases e with
  |normal=>exact ihy _ _ _ _ _ hk h
  |exit id=>exact hk _ _ _ _ h
  |ret=>exact hk _ _ _ _ h
 |cond x y z ihy ihz=>
  intro R cur F H k k' hk r h;unfold a2t at h⊢;split at h
  case h_2=>cases h
  rename_i t ht;simp only[cond_eq_ite]at h⊢;split at h
  ·rename_i h1;rw[if_pos h1];exact ihy _ _ _ _ _ hk h
  ·rename_i h1;rw[if_neg h1];exact ihz _ _ _ _ _ hk h
 |block id b ih=>
  intro R cur F H k k' hk r h;unfold a2t at h⊢;refine ih _ _ _ _ _ ?_ h;intro e F H r h;cases e with
  |normal=>exact hk _ _ _ _ h
  |exit id'=>
   simp only[cond_eq_ite]at h⊢;split at h
   ·rename_i h1;rw[if_pos h1];exact hk _ _ _ _ h
   ·rename_i h1;rw[if_neg h1];exact hk _ _ _ _ h
  |ret=>exact hk _ _ _ _ h
 |loop b ih=>
  intro R cur F H k k' hk r h;unfold a2t at h⊢;cases hn:a5o b with
  |some it=>rw[hn]at h;exact c4d (λF H k k' hk r h=>ih _ F H k k' hk h) hk h
  |none=>
  rw[hn]at h;dsimp only at h⊢;refine b58 (λF H k k' hk r h=>ih _ F H k k' hk h) _ _ hl F H _ _ ?_ h;intro e F H r h;rw[cond_eq_ite]at h⊢;split at h
  ·rename_i h1;rw[if_pos h1];exact hk _ _ _ _ h
  ·rename_i h1;rw[if_neg h1];exact hk _ _ _ _ h
 |scope b ih=>intro R cur F H k k' hk r h;unfold a2t at h⊢;exact ih _ _ _ _ _ hk h
 |rangeFunc f ps as b=>
  intro R cur F H k k' hk r h;unfold a2t at h⊢;split at h
  case h_2=>cases h
  rename_i g fs cs y _ _;rw[cond_eq_ite]at h⊢;split at h
  case isFalse=>cases h
  rename_i h1;rw[if_pos h1];split at h
  case h_2=>cases h
  rename_i v H2 σ hr;rw[a77 (λa H x=>hc g a H x) hr];dsimp only;split at h
  ·exact hk _ _ _ _ h
  ·exact hk _ _ _ _ h
  ·exact hk _ _ _ _ h
  ·cases h
 |_=>intro R cur F H k k' hk r h;simp[a2t]at h
theorem b6c{lf lf':Nat}(hl:lf≤lf'){args:List AV}{H:a04}{r:AV×a04}(h:a62 E c lf args H=some r):a62 E c' lf' args H=some r:=by
 unfold a62 at h⊢;split at h
 case h_2=>cases h
 rename_i b vs;split at h
 case h_2=>cases h
 rename_i y F hb;split at h
 case h_2=>cases h
 rename_i ri hri;rw[cond_eq_ite]at h⊢;split at h
 case isFalse=>cases h
 rename_i h1;rw[if_pos h1];refine a9f hc hl _ _ _ _ _ _ ?_ h;intro e F H r h;cases e with
 |normal=>
  dsimp only at h⊢;split at h
  case h_2=>cases h
  rename_i H1 hy;exact a9f hc hl _ _ _ _ _ _ (λ_ _ _ _ h=>h) h
 |exit id=>exact h
 |ret=>exact h
theorem c98{m0 lf lf':Nat}(hl:lf≤lf'){keep:Nat→List Nat}:∀(code:Code) {R:Type} (cur:Nat) (F:Frm) (H:a04) (k k':AExit→Frm→a04→Option R),(∀e F H r,k e F H=some r→k' e F H=some r)→∀{r:R},
 d7y E m0 N keep c lf cur code F H k=some r→d7y E m0 N keep c' lf' cur code F H k'=some r:=by
 intro code
 induction code with
 |seq x y ihx ihy=>
  intro R cur F H k k' hk r h;unfold d7y at h⊢;refine ihx _ _ _ _ _ ?_ h;intro e F H r h;cases e with
  |normal=>exact ihy _ _ _ _ _ hk h
  |exit id=>exact hk _ _ _ _ h
  |ret=>exact hk _ _ _ _ h
 |_=>intro R cur F H k k' hk r h;exact a9f hc hl _ _ _ _ _ _ hk h
theorem b4t{lf lf':Nat}(hl:lf≤lf'){g:FuncId}{args:List AV}{H:a04}{r:AV×a04}(h:a5b E c lf g args H=some r):a5b E c' lf' g args H=some r:=by
 unfold a5b at h⊢;split at h
 ·exact h
 split at h
 ·skip
  rw[cond_eq_ite]at h⊢;split at h
  case isFalse=>cases h
  rename_i h1;rw[if_pos h1];exact b6c hc hl h
 rename_i i hi;rw[cond_eq_ite]at h⊢;split at h
 case isFalse=>cases h
 rename_i h1;rw[if_pos h1];unfold e5d at h⊢;cases hz:E.zf g with
 |true=>rw[hz,cond_true]at h;rw[cond_true];exact c98 hc hl _ _ _ _ _ _ (λ_ _ _ _ h=>h) h
 |false=>rw[hz,cond_false]at h;rw[cond_false];exact a9f hc hl _ _ _ _ _ _ (λ_ _ _ _ h=>h) h
end
inductive Der(E:Env)(M:List Fact):FuncId→List AV→a04→AV×a04→Prop
 |run (g:FuncId) (args:List AV) (H:a04) (r:AV×a04) (c:CallF) (lf:Nat) (hc:∀g a H r,c g a H=some r→Der E M g a H r)
  (hno:∀x∈M,x.g≠g) (h:a5b E c lf g args H=some r):Der E M g args H r
 |fact (x:Fact) (hx:x∈M) (hfirst:∀y∈M,y.g=x.g→y.args=x.args→y.v=x.v):Der E M x.g x.args [] (x.v,[])
open Classical in
noncomputable def e53(c c':CallF):CallF:=λg a H=>match c g a H with|some r=>some r|none=>c' g a H
theorem Der.one{E:Env}{M:List Fact}{g:FuncId}{args:List AV}{H:a04}{r r':AV×a04}(h:Der E M g args H r)(h':Der E M g args H r'):r=r':=by
 induction h generalizing r' with
 |run g args H r c lf hc hno h ih=>
  cases h' with
  |run _ _ _ _ c' lf' hc' hno' h'=>
   have l1:CallF.le c (e53 c c'):=by intro g a H r h;simp[e53,h]
   have l2:CallF.le c' (e53 c c'):=by
    intro g a H r h;unfold e53;cases hcc:c g a H with
    |none=>exact h
    |some s=>exact congrArg some (ih g a H s hcc (hc' g a H r h))
   have e1:=b4t l1 (Nat.le_max_left lf lf') h;have e2:=b4t l2 (Nat.le_max_right lf lf') h';exact z9o (e1.symm.trans e2)
  |fact x hx=>exact absurd rfl (hno x hx)
 |fact x hx hf=>
  generalize hg:x.g=g at h';generalize ha:x.args=args at h';generalize hH:([]:a04)=H at h';cases h' with
  |run _ _ _ _ c' lf' hc' hno' h'=>exact absurd hg (hno' x hx)
  |fact y hy hf'=>rw[hf y hy hg.symm ha.symm]
theorem Der.ok{E:Env}(ok:EnvOk E)(hdr:DrOk E){M:List Fact}(hM:∀x∈M,FactOk E x){g:FuncId}{args:List AV}{H:a04}{r:AV×a04}(h:Der E M g args H r) :
 a9j E g (λa H'=>open Classical in if a=args∧H'=H then some r else none):=by
 induction h with
 |run g args H r c lf hc hno h ih=>
  have hcall:a2k E c:=by intro g a H v H' hr;have:=ih g a H (v,H') hr;exact this a H v H' (by simp)
  intro a H' v H'' hr;dsimp only at hr;split at hr
  ·rename_i hh;obtain⟨rfl,rfl⟩:=hh;cases hr;exact b6d ok hdr hcall lf g a H' v H'' h
  ·cases hr
 |fact x hx hf=>
  intro a H' v H'' hr;dsimp only at hr;split at hr
  ·rename_i hh;obtain⟨rfl,rfl⟩:=hh;cases hr;intro I K ρ w cargs h1 h2 h3;exact hM x hx I K ρ w cargs h1 h2 h3
  ·cases hr
open Classical in
noncomputable def sem(E:Env)(M:List Fact):CallF:=λg args H=>if h:∃r,Der E M g args H r then some h.choose else none
section
variable {E:Env}{M:List Fact}
theorem a6r{g:FuncId}{args:List AV}{H:a04}{r:AV×a04}:sem E M g args H=some r↔Der E M g args H r:=by
 unfold sem;constructor
 ·intro h;split at h
  ·rename_i hh;cases h;exact hh.choose_spec
  ·cases h
 ·intro h;have hh:∃r,Der E M g args H r:=⟨r,h⟩
  rw[dif_pos hh];exact congrArg some (Der.one hh.choose_spec h)
theorem c5v{g:FuncId}{args:List AV}{H:a04}{r:AV×a04}(hno:∀x∈M,x.g≠g)(lf:Nat)(h:a5b E (sem E M) lf g args H=some r):sem E M g args H=some r:=a6r.2 (.run g args H r (sem E M) lf (λ_ _ _ _ h=>a6r.1 h) hno h)
theorem sem_ok(ok:EnvOk E)(hdr:DrOk E)(hM:∀x∈M,FactOk E x):a2k E (sem E M):=by intro g args H v H' h;exact(Der.ok ok hdr hM (a6r.1 h)) args H v H' (by simp)
end
end Go.Ax
/- AxEv: runs of statements in direct style: what a statement comes to, for a3r loop fuel that is great enough. -/
namespace Go.Ax
def d3r{α β:Type}(x:Option α)(f:α→β)(d:β):β:=match x with|some a=>f a|none=>d
def a0h{α β:Type}(x:Option α)(f:α→Option β):Option β:=match x with|some a=>f a|none=>none
@[go_sem] theorem d8t{α β:Type}(a:α)(f:α→Option β):a0h (some a) f=f a:=by rfl
@[congr] theorem d5q{α β:Type}{x y:Option α}{f:α→Option β}(h:x=y):a0h x f=a0h y f:=by rw[h]
def a6i(E:Env)(draw:Bool)(N:Nat)(call:CallF)(all:List Oper):List Oper→List LogE→Frm→a04→Option (Frm×a04×List LogE)
 | [],log,F,H=>some (F,H,log)
 |o::rest,log,F,H=>
  bif a5v N o.dst then
   match o.guard with
   |none=>a0h (a0n E draw call F H o.op) λx=>a6i E draw N call all rest (x.2.2::log) (a2w F o.dst x.1) x.2.1
   |some (j,want)=>match a2g all j with
    |none=>none
    |some d=>match a1f F d with
     |.bool b=>bif b then
      (bif want then a0h (a0n E draw call (a2w F (some d) (.bool true)) H o.op) λx=>a6i E draw N call all rest (x.2.2::log) (a2w (a2w F (some d) (.bool true)) o.dst x.1) x.2.1
      else a6i E draw N call all rest (⟨[],[]⟩::log) (a2w (a2w F (some d) (.bool true)) o.dst (.tuple [])) H)
      else
       (bif want then a6i E draw N call all rest (⟨[],[]⟩::log) (a2w (a2w F (some d) (.bool false)) o.dst (.tuple [])) H
       else a0h (a0n E draw call (a2w F (some d) (.bool false)) H o.op) λx=>a6i E draw N call all rest (x.2.2::log) (a2w (a2w F (some d) (.bool false)) o.dst x.1) x.2.1)
     |.tuple []=>a6i E draw N call all rest (⟨[],[]⟩::log) (a2w F o.dst (.tuple [])) H
     |_=>none
  else none
theorem b28{E:Env}{draw:Bool}{N:Nat}{call:CallF}{all:List Oper}{R:Type}{k:Frm→a04→Option R}:∀(ops:List Oper) (log:List LogE) (F:Frm) (H:a04),
 a22 E draw N call all ops log F H k=(match a6i E draw N call all ops log F H with|some (F',H',log')=>(bif !draw||logOk all log'.length log' then k F' H' else none)|none=>none):=by
 intro ops
 induction ops with
 |nil=>intro log F H;rfl
 |cons o rest ih=>
  intro log F H;have step:∀(F1 F2:Frm),(match a0n E draw call F1 H o.op with
   |some (v,H',l)=>a22 E draw N call all rest (l::log) (a2w F2 o.dst v) H' k
   |none=>none)=(match a0h (a0n E draw call F1 H o.op) λx=>a6i E draw N call all rest (x.2.2::log) (a2w F2 o.dst x.1) x.2.1 with|some (F',H',log')=>(bif !draw||logOk all log'.length log' then k F' H' else none)|none=>none):=by
   intro F1 F2;cases a0n E draw call F1 H o.op with
   |none=>rfl
   |some x=>exact ih _ _ _
  obtain⟨dst,op,ty,pos,after,guard⟩:=o;unfold a22 a6i;cases hd:a5v N dst with
  |false=>rfl
  |true=>
   cases guard with
   |none=>exact step F F
   |some g=>
    obtain⟨j,want⟩:=g;simp only[cond_true];cases hs:a2g all j with
    |none=>rfl
    |some d=>
     simp only;cases hv:a1f F d with
     |bool b=>cases b<;>cases want<;>simp only[cond_true,cond_false]<;>first|exact step _ _|exact ih _ _ _
     |tuple vs=>cases vs with
      |nil=>exact ih _ _ _
      |cons a r=>rfl
     |_=>rfl
structure Cx where
 E:Env
 M:List Fact
 m0:Nat
 N:Nat
 keep:Nat→List Nat
 cur:Nat
def Ev(x:Cx)(c:Code)(F:Frm)(H:a04)(r:AExit×Frm×a04):Prop:=∃n0,∀lf,n0≤lf→∀(R:Type) (k:AExit→Frm→a04→Option R),a2t x.E x.m0 x.N x.keep (sem x.E x.M) lf x.cur c F H k=k r.1 r.2.1 r.2.2
section
variable {x:Cx}{F F1:Frm}{H H1:a04}{r:AExit×Frm×a04}
theorem Ev.skip:Ev x .skip F H (.normal,F,H):=⟨0,λ_ _ _ _=>rfl⟩
theorem Ev.label{l}:Ev x (.label l) F H (.normal,F,H):=⟨0,λ_ _ _ _=>rfl⟩
theorem Ev.leave{id}:Ev x (.exit id) F H (.exit id,F,H):=⟨0,λ_ _ _ _=>rfl⟩
theorem Ev.ret:Ev x .ret F H (.ret,F,H):=⟨0,λ_ _ _ _=>rfl⟩
theorem d5s{E:Env}{draw:Bool}{N:Nat}{call:CallF}{all ops:List Oper}{log:List LogE}{F:Frm}{H:a04}{r:Frm×a04×List LogE}(h:a6i E draw N call all ops log F H=some r):c5f ops=none:=by
 unfold c5f;split
 ·rfl
 ·rename_i o rest;split
  ·rename_i it nx h1 h2 h3;obtain⟨d,op,ty,pos,after,guard⟩:=o;simp only at h1 h2 h3;subst h1 h2 h3;unfold a6i at h;have hs:a0n E draw call F H (.next (.tmp it) false)=none:=by
    have:aop E H.length (a01 H) (.next (.tmp it) false) (opv E F)=none:=by show c03 (a01 H) (opv E F (.tmp it)) false=none;unfold c03;split<;>rfl
    unfold a0n;simp only[this]
   rw[cond_eq_ite]at h;split at h
   ·simp only[hs,a0h]at h;cases h
   ·cases h
  ·rfl
theorem Ev.region{id ops draw}{log:List LogE}(h:a6i x.E draw x.N (sem x.E x.M) ops.toList ops.toList [] F H=some (F1,H1,log))(hl:(!draw||logOk ops.toList log.length log)=true):Ev x (.region id ops draw) F H (.normal,F1,H1):=⟨0,λ_ _ R k=>by simp only[a2t,d5s h,b28,h,hl,cond_true]⟩
theorem Ev.seq{a b}(h:Ev x a F H (.normal,F1,H1))(h2:Ev x b F1 H1 r):Ev x (.seq a b) F H r:=by obtain⟨n,h⟩:=h;obtain⟨m,h2⟩:=h2;exact⟨max n m,λlf hl R k=>by simp only[a2t];rw[h lf (by omega)];exact h2 lf (by omega) R k⟩
theorem Ev.seq_ret{a b}(h:Ev x a F H (.ret,F1,H1)):Ev x (.seq a b) F H (.ret,F1,H1):=by obtain⟨n,h⟩:=h;exact⟨n,λlf hl R k=>by simp only[a2t];rw[h lf hl]⟩
theorem Ev.seq_exit{a b id}(h:Ev x a F H (.exit id,F1,H1)):Ev x (.seq a b) F H (.exit id,F1,H1):=by obtain⟨n,h⟩:=h;exact⟨n,λlf hl R k=>by simp only[a2t];rw[h lf hl]⟩
theorem Ev.cond_t{c a b}(hc:opv x.E F c = .bool true)(h:Ev x a F H r):Ev x (.cond c a b) F H r:=by obtain⟨n,h⟩:=h;exact⟨n,λlf hl R k=>by simp only[a2t,hc,cond_true];exact h lf hl R k⟩
theorem Ev.cond_f{c a b}(hc:opv x.E F c = .bool false)(h:Ev x b F H r):Ev x (.cond c a b) F H r:=by obtain⟨n,h⟩:=h;exact⟨n,λlf hl R k=>by simp only[a2t,hc,cond_false];exact h lf hl R k⟩
theorem Ev.block{id b}(h:Ev { x with cur:=id } b F H (.normal,F1,H1)):Ev x (.block id b) F H (.normal,F1,H1):=by obtain⟨n,h⟩:=h;exact⟨n,λlf hl R k=>by simp only[a2t];rw[h lf hl]⟩
theorem Ev.block_ret{id b}(h:Ev { x with cur:=id } b F H (.ret,F1,H1)):Ev x (.block id b) F H (.ret,F1,H1):=by obtain⟨n,h⟩:=h;exact⟨n,λlf hl R k=>by simp only[a2t];rw[h lf hl]⟩
theorem Ev.block_exit{id b}(h:Ev { x with cur:=id } b F H (.exit id,F1,H1)):Ev x (.block id b) F H (.normal,F1,H1):=by obtain⟨n,h⟩:=h;exact⟨n,λlf hl R k=>by simp only[a2t];rw[h lf hl];simp⟩
theorem Ev.block_on{id id' b}(h:Ev { x with cur:=id } b F H (.exit id',F1,H1))(hne:(id'==id)=false):Ev x (.block id b) F H (.exit id',F1,H1):=by obtain⟨n,h⟩:=h;exact⟨n,λlf hl R k=>by simp only[a2t];rw[h lf hl];simp only[hne,cond_false]⟩
theorem Ev.scope{b}(h:Ev x b F H r):Ev x (.scope b) F H r:=by obtain⟨n,h⟩:=h;exact⟨n,λlf hl R k=>by simp only[a2t];exact h lf hl R k⟩
def EvL(x:Cx)(b:Code)(F:Frm)(H:a04)(r:AExit×Frm×a04):Prop:=
 ∃n0,∀lf,n0≤lf→∀n,n0≤n→∀(R:Type) (k:AExit→Frm→a04→Option R),
  b15 x.m0 (x.keep x.cur) (λF H k=>a2t x.E x.m0 x.N x.keep (sem x.E x.M) lf x.cur b F H k) n F H k=k r.1 r.2.1 r.2.2
theorem Ev.loop{b}(hx:a5o b=none)(hz:c9i (x.keep x.cur)=false)(h:EvL x b F H r):Ev x (.loop b) F H r:=by obtain⟨n,h⟩:=h;exact⟨n,λlf hl R k=>by simp only[a2t,hx,hz,cond_false];exact h lf hl lf hl R k⟩
theorem Ev.loopZ{b}{e:AExit}(hx:a5o b=none)(hz:c9i (x.keep x.cur)=true)(h:EvL x b F H (e,F1,H1)):Ev x (.loop b) F H (e,c1f (x.m0+c4q (x.keep x.cur)) H1 F1,b9b (x.m0+c4q (x.keep x.cur)) H1):=by obtain⟨n,h⟩:=h;exact⟨n,λlf hl R k=>by simp only[a2t,hx,hz,cond_true];exact h lf hl lf hl R _⟩
theorem c7m{m0:Nat}{keep:List Nat}(hg:gcD m0 keep F H=some (F1,H1)) :
 (a3x (b05 m0 (a1l keep F) H)&&(b05 m0 (a1l keep F) H).all (λb=>Nat.ble m0 b)&&Nat.ble m0 H.length)=true∧b7q (b7r m0 (b05 m0 (a1l keep F) H)) (a1l keep F)=F1∧gcH m0 (b05 m0 (a1l keep F) H) H=H1:=by
 unfold gcD at hg;simp only[cond_eq_ite]at hg;split at hg
 case isFalse=>cases hg
 rename_i hc;cases hg;exact⟨hc,rfl,rfl⟩
theorem EvL.leave{b:Code}{F2:Frm}{H2:a04}{e:AExit}(hg:gcD x.m0 (x.keep x.cur) F H=some (F1,H1))(h:Ev x b F1 H1 (e,F2,H2))(he:e≠ .normal):EvL x b F H (e,F2,H2):=by
 obtain⟨n0,h⟩:=h;refine⟨n0+1,λlf hl n hn R k=>?_⟩;obtain⟨n,rfl⟩:∃l,n=l+1:=⟨n-1,by omega⟩
 obtain⟨h1,h2,h3⟩:=c7m hg;simp only[b15,h1,h2,h3,cond_true];rw[h lf (by omega)];cases e with
 |normal=>exact absurd rfl he
 |exit id=>rfl
 |ret=>rfl
theorem EvL.again{b:Code}{F2:Frm}{H2:a04}(hg:gcD x.m0 (x.keep x.cur) F H=some (F1,H1))(h:Ev x b F1 H1 (.normal,F2,H2))(h':EvL x b F2 H2 r):EvL x b F H r:=by
 obtain⟨n0,h⟩:=h;obtain⟨m0,h'⟩:=h';refine⟨max n0 m0+1,λlf hl n hn R k=>?_⟩;obtain⟨n,rfl⟩:∃l,n=l+1:=⟨n-1,by omega⟩
 obtain⟨h1,h2,h3⟩:=c7m hg;simp only[b15,h1,h2,h3,cond_true];rw[h lf (by omega)];exact h' lf (by omega) n (by omega) R k
theorem c29{E:Env}{M:List Fact}{g:FuncId}{args:List AV}{H:a04}{code:Code}{N:Nat}{results:List ResultVar}{e:AExit}{F':Frm}{H':a04}{vs:List AV}{v:AV}{H2:a04}
 (hfn:E.fn g=some ⟨code,N,results⟩)(hno:∀y∈M,y.g≠g)(hN:Nat.ble args.length N=true)(h:Ev ⟨E,M,H.length,N,E.keep g,0⟩ code (a3s 0 args) H (e,F',H'))(he:∀id,e≠ .exit id)
 (hr:a0z E F' H' results=some vs)(hfin:a0j (E.thaw g) H.length (a2p vs) H'=some (v,H2))(hp:E.prim g args=none)(hz:E.zf g=false):sem E M g args H=some (v,H2):=by
 obtain⟨n,h⟩:=h;refine c5v hno n ?_;unfold a5b;have hph:c49 E g args H=none:=by
  unfold c49;cases H with
  |nil=>exact hp
  |cons a r=>rfl
 rw[hph,hfn];simp only;rw[hN];simp only[cond_true];unfold e5d;rw[hz];simp only[cond_false];refine(h n (Nat.le_refl _) _ _).trans ?_;cases e with
 |exit id=>exact absurd rfl (he id)
 |normal=>simp only[hr];exact hfin
 |ret=>simp only[hr];exact hfin
end
end Go.Ax
/- AxSimp: the evaluator's steps as rewrite rules. -/
namespace Go.Ax
section
variable {E:Env}{draw:Bool}{N:Nat}{call:CallF}{all rest:List Oper}{log:List LogE}{F:Frm}{H:a04}
@[go_sem] theorem e4r(s:Nat)(v:AV)(r:Frm):a1f ((s,v)::r) s=v:=by simp only[a1f,c6n,cond_eq_ite,beq_self_eq_true,if_true]
@[go_sem] theorem e1u{s t:Nat}(h:(s=t)=False)(v:AV)(r:Frm):a1f ((s,v)::r) t=a1f r t:=by have:¬s=t:=λe=>h▸e;simp only[a1f,c6n,cond_eq_ite,beq_iff_eq,if_neg this]
@[go_sem] theorem e05(d:Nat)(v:AV):a2w F (some d) v=(d,v)::F:=by rfl
@[go_sem] theorem e06(v:AV):a2w F none v=F:=by rfl
@[go_sem] theorem e6b(t:Nat):opv E F (.tmp t)=a1f F t:=by rfl
@[go_sem] theorem e4e(f:Nat):opv E F (.func f) = .func (.func f) [] []:=by rfl
@[go_sem] theorem e4f(b:Bool):opv E F (.const (.bool b)) = .bool b:=by rfl
@[go_sem] theorem e6d(k:IntKind)(n:Int):opv E F (.const (.int k n)) = .int k n:=by rfl
@[go_sem] theorem d3p:opv E F (.const (.slice none 0 0)) = .nilslice:=by rfl
@[go_sem] theorem d8s:opv E F (.const (.map none)) = .nilmap:=by rfl
@[go_sem] theorem d5o:opv E F (.const .nilFunc) = .nilfunc:=by rfl
@[go_sem] theorem e6c(s:ByteArray):opv E F (.const (.string s)) = .str s.data.toList:=by rfl
@[go_sem] theorem e3t:a6i E draw N call all [] log F H=some (F,H,log):=by rfl
@[go_sem] theorem d97(d:Nat):a5v N (some d)=decide (d<N):=by rw[a5v,Bool.eq_iff_iff];simp[Nat.blt_eq]
@[go_sem] theorem d98:a5v N none=true:=by rfl
theorem d54(dst:Option Nat)(op:Op)(ty:TypeId)(pos:String)(after:Array Edge) :
 a6i E draw N call all ({ dst:=dst,op:=op,type:=ty,pos:=pos,after:=after,guard:=none }::rest) log F H =
  bif a5v N dst then a0h (a0n E draw call F H op) λx=>a6i E draw N call all rest (x.2.2::log) (a2w F dst x.1) x.2.1 else none:=by
 rfl
def d04(E:Env)(draw:Bool)(N:Nat)(call:CallF)(all:List Oper)(dst:Option Nat)(op:Op)(rest:List Oper)(log:List LogE)(F:Frm)(H:a04)(d:Nat)(want:Bool):AV→Option (Frm×a04×List LogE)
 |.bool b=>bif b then
  (bif want then a0h (a0n E draw call (a2w F (some d) (.bool true)) H op) λx=>a6i E draw N call all rest (x.2.2::log) (a2w (a2w F (some d) (.bool true)) dst x.1) x.2.1
  else a6i E draw N call all rest (⟨[],[]⟩::log) (a2w (a2w F (some d) (.bool true)) dst (.tuple [])) H)
  else
   (bif want then a6i E draw N call all rest (⟨[],[]⟩::log) (a2w (a2w F (some d) (.bool false)) dst (.tuple [])) H
   else a0h (a0n E draw call (a2w F (some d) (.bool false)) H op) λx=>a6i E draw N call all rest (x.2.2::log) (a2w (a2w F (some d) (.bool false)) dst x.1) x.2.1)
 |.tuple []=>a6i E draw N call all rest (⟨[],[]⟩::log) (a2w F dst (.tuple [])) H
 |_=>none
theorem c43(dst:Option Nat)(op:Op)(ty:TypeId)(pos:String)(after:Array Edge)(j:Nat)(want:Bool) :
 a6i E draw N call all ({ dst:=dst,op:=op,type:=ty,pos:=pos,after:=after,guard:=some (j,want) }::rest) log F H =
  bif a5v N dst then a0h (a2g all j) λd=>d04 E draw N call all dst op rest log F H d want (a1f F d)else none:=by
 unfold a6i;cases a5v N dst with
 |false=>rfl
 |true=>
  simp only[cond_true];cases a2g all j with
  |none=>rfl
  |some d=>simp only[a0h];unfold d04;rfl
section
variable {dst:Option Nat}{op:Op}{d:Nat}
theorem d50:d04 E draw N call all dst op rest log F H d true (.bool true)=a0h (a0n E draw call ((d,.bool true)::F) H op) λx=>a6i E draw N call all rest (x.2.2::log) (a2w ((d,.bool true)::F) dst x.1) x.2.1:=by rfl
theorem d51:d04 E draw N call all dst op rest log F H d true (.bool false)=a6i E draw N call all rest (⟨[],[]⟩::log) (a2w ((d,.bool false)::F) dst (.tuple [])) H:=by rfl
theorem d52:d04 E draw N call all dst op rest log F H d false (.bool true)=a6i E draw N call all rest (⟨[],[]⟩::log) (a2w ((d,.bool true)::F) dst (.tuple [])) H:=by rfl
theorem d53:d04 E draw N call all dst op rest log F H d false (.bool false)=a0h (a0n E draw call ((d,.bool false)::F) H op) λx=>a6i E draw N call all rest (x.2.2::log) (a2w ((d,.bool false)::F) dst x.1) x.2.1:=by rfl
theorem d4z{want:Bool}:d04 E draw N call all dst op rest log F H d want (.tuple [])=a6i E draw N call all rest (⟨[],[]⟩::log) (a2w F dst (.tuple [])) H:=by cases want<;>rfl
end
attribute [go_sem] d54 c43 d50 d51 d52 d53 d4z
@[congr] theorem d8l{dst:Option Nat}{op:Op}{d:Nat}{want:Bool}{v v':AV}(h:v=v'):d04 E draw N call all dst op rest log F H d want v=d04 E draw N call all dst op rest log F H d want v':=by rw[h]
/-! ### one operation -/
@[go_sem] theorem e5x(x:Operand):a0n E draw call F H (.move x)=some (opv E F x,H,⟨[],[]⟩):=by rfl
@[go_sem] theorem d9z(x:Operand):a0n E draw call F H (.assign x)=some (opv E F x,H,⟨[],[]⟩):=by rfl
theorem a1m{op:Op}{v:Option AV}(h:aop E H.length (a01 H) op (opv E F)=v.map (·,.none))(hs:a0n E draw call F H op=match aop E H.length (a01 H) op (opv E F)with
 |some (v,e)=>bif e.fits H.length then some (v,a89 H e,⟨a5w op (opv E F),e.keys H.length⟩)else none
 |none=>none):a0n E draw call F H op=a0h v λv=>some (v,H,⟨a5w op (opv E F),[]⟩):=by
 rw[hs,h];cases v<;>rfl
@[go_sem] theorem e8v(op:BinOp)(t:TypeId)(x y:Operand)(z):a0n E draw call F H (.binOp op t x y z)=a0h (a4h E op t (opv E F x) (opv E F y) (a3o x||a3o y)) λv=>some (v,H,⟨[],[]⟩):=a1m rfl rfl
@[go_sem] theorem f0n(op:UnOp)(t:TypeId)(x:Operand):a0n E draw call F H (.unOp op t x)=a0h (aun op (opv E F x)) λv=>some (v,H,⟨[],[]⟩):=a1m rfl rfl
@[go_sem] theorem e5z(s d:TypeId)(x:Operand):a0n E draw call F H (.convert s d x)=a0h (a6l E (a01 H) s d (opv E F x)) λv=>some (v,H,⟨a0g (opv E F x),[]⟩):=a1m rfl rfl
@[go_sem] theorem e5y(t:TypeId)(x:Operand):a0n E draw call F H (.load t x)=a0h (a51 E (a01 H) t (opv E F x)) λv=>some (v,H,⟨a0g (opv E F x),[]⟩):=a1m rfl rfl
@[go_sem] theorem e3k(t:TypeId)(x:Operand)(lo hi mx:Option Operand):a0n E draw call F H (.slice t x lo hi mx)=a0h (a3y E (a01 H) t (opv E F x) (lo.map (opv E F)) (hi.map (opv E F)) (mx.map (opv E F))) λv=>some (v,H,⟨a0g (opv E F x),[]⟩):=a1m rfl rfl
@[go_sem] theorem d3e(t:TypeId)(x:Operand)(f:Nat):a0n E draw call F H (.fieldAddr t x f)=a0h (a4r E t (opv E F x) f) λv=>some (v,H,⟨[],[]⟩):=a1m rfl rfl
@[go_sem] theorem d3d(t:TypeId)(x i:Operand):a0n E draw call F H (.indexAddr t x i)=a0h (a11 E (a01 H) t (opv E F x) (opv E F i)) λv=>some (v,H,⟨a0g (opv E F x),[]⟩):=a1m rfl rfl
@[go_sem] theorem e3o(t:TypeId)(ps:Array (Nat×Operand)):a0n E draw call F H (.build t ps)=a0h (b5x E t (ps.toList.map λp=>(p.1,opv E F p.2))) λv=>some (v,H,⟨[],[]⟩):=a1m rfl rfl
@[go_sem] theorem d9x(t:TypeId)(x k:Operand)(o:Bool):a0n E draw call F H (.lookup t x k o)=a0h (oor (a45 E (a01 H) t (opv E F x) (opv E F k) o) (a5x E (a01 H) t (opv E F x) (opv E F k) o)) λv=>some (v,H,⟨a0g (opv E F x),[]⟩):=a1m rfl rfl
@[go_sem] theorem d4o(fn:Fn)(first cap:Array Operand):a0n E draw call F H (.makeFunc fn first cap)=some (.func fn (first.toList.map (opv E F)) (cap.toList.map (opv E F)),H,⟨[],[]⟩):=by rfl
def c01(c a b:AV):Option AV:=match c with|.bool t=>some (b4e t a b)|_=>none
@[go_sem] theorem e5w(c a b:Operand):a0n E draw call F H (.pick c a b)=a0h (c01 (opv E F c) (opv E F a) (opv E F b)) λv=>some (v,H,⟨[],[]⟩):=by refine a1m ?_ rfl;simp only[aop,c01];cases opv E F c<;>rfl
@[go_sem] theorem d7n(t a b:Bool):c01 (.bool t) (.bool a) (.bool b)=some (.bool (bif t then a else b)):=by rfl
@[go_sem] theorem d7m(a b:AV):c01 (.bool true) a b=some (b4e true a b):=by rfl
@[go_sem] theorem d49(a b:AV):c01 (.bool false) a b=some (b4e false a b):=by rfl
theorem d7k(a b:AV):b4e true a b=a:=by unfold b4e;split<;>simp
theorem d7l(a b:AV):b4e false a b=b:=by unfold b4e;split<;>simp
attribute [go_sem] d7k d7l
def c02(x:AV):Option AV:=match x with
 |.ptr b i o=>some (.ptr b i o)
 |.iptr cs=>some (.iptr cs)
 |.func (.func f) fs cs=>some (.func (.func f) fs cs)
 |_=>none
attribute [go_sem] c02
@[go_sem] theorem d4n(x:Operand):a0n E draw call F H (.nilCheck x)=a0h (c02 (opv E F x)) λv=>some (v,H,⟨[],[]⟩):=by
 refine a1m ?_ rfl;simp only[aop];generalize opv E F x=y;cases y<;>try rfl
 rename_i fn _ _;cases fn<;>rfl
def b7k(x:AV)(i:Nat):Option AV:=match x with|.tuple vs=>vs[i]?|_=>none
attribute [go_sem] b7k
@[go_sem] theorem d8j(t:Operand)(i:Nat):a0n E draw call F H (.extract t i)=a0h (b7k (opv E F t) i) λv=>some (v,H,⟨[],[]⟩):=by
 refine a1m ?_ rfl;simp only[aop,b7k];cases opv E F t with
 |tuple vs=>simp only;cases vs[i]?<;>rfl
 |_=>rfl
theorem a49{op:Op}{v:Option (AV×Eff)}(h:aop E H.length (a01 H) op (opv E F)=v)(hs:a0n E draw call F H op=match aop E H.length (a01 H) op (opv E F)with
 |some (v,e)=>bif e.fits H.length then some (v,a89 H e,⟨a5w op (opv E F),e.keys H.length⟩)else none
 |none=>none){n:List Nat}(hn:a5w op (opv E F)=n):a0n E draw call F H op=a0h v λx=>bif x.2.fits H.length then some (x.1,a89 H x.2,⟨n,x.2.keys H.length⟩)else none:=by
 rw[hs,h];subst hn;cases v<;>rfl
@[go_sem] theorem e3p(t:TypeId):a0n E draw call F H (.alloc t)=a0h (d7p E H.length t) λx=>bif x.2.fits H.length then some (x.1,a89 H x.2,⟨[],x.2.keys H.length⟩)else none:=a49 rfl rfl rfl
@[go_sem] theorem e8u(t:TypeId)(x:Operand):a0n E draw call F H (.box t x)=a0h (d84 H.length (opv E F x)) λx=>bif x.2.fits H.length then some (x.1,a89 H x.2,⟨[],x.2.keys H.length⟩)else none:=a49 rfl rfl rfl
@[go_sem] theorem e3j(t:TypeId)(a x:Operand):a0n E draw call F H (.store t a x)=a0h (a6k E (a01 H) t (opv E F a) (opv E F x)) λe=>bif e.fits H.length then some (.tuple [],a89 H e,⟨a0g (opv E F a),e.keys H.length⟩)else none:=by refine(a49 (v:=(a6k E (a01 H) t (opv E F a) (opv E F x)).map (.tuple [],·)) rfl rfl rfl).trans ?_;cases a6k E (a01 H) t (opv E F a) (opv E F x)<;>rfl
@[go_sem] theorem c9z(t:TypeId)(n:Nat)(ps:Array (Nat×Operand)):a0n E draw call F H (.buildSlice t n ps)=a0h (a2r E H.length t n (ps.toList.map λp=>(p.1,opv E F p.2))) λx=>bif x.2.fits H.length then some (x.1,a89 H x.2,⟨[],x.2.keys H.length⟩)else none:=a49 rfl rfl rfl
@[go_sem] theorem d3c(t:TypeId)(l c:Operand):a0n E draw call F H (.makeSlice t l c)=a0h (a3g E H.length t (opv E F l) (opv E F c)) λx=>bif x.2.fits H.length then some (x.1,a89 H x.2,⟨[],x.2.keys H.length⟩)else none:=a49 rfl rfl rfl
@[go_sem] theorem d8i(t:TypeId):a0n E draw call F H (.makeMap t none)=some (.map H.length,H++[some (b51 E t)],⟨[],[H.length]⟩):=by rfl
@[go_sem] theorem d3b(t:TypeId)(m k x:Operand):a0n E draw call F H (.mapUpdate t m k x)=a0h (oor (a1c E (a01 H) t (opv E F m) (opv E F k) (opv E F x)) (a9a E (a01 H) t (opv E F m) (opv E F k) (opv E F x))) λe=>bif e.fits H.length then some (.tuple [],a89 H e,⟨a0g (opv E F m),e.keys H.length⟩)else none:=by refine(a49 (v:=(oor (a1c E (a01 H) t (opv E F m) (opv E F k) (opv E F x)) (a9a E (a01 H) t (opv E F m) (opv E F k) (opv E F x))).map (.tuple [],·)) rfl rfl rfl).trans ?_;cases oor (a1c E (a01 H) t (opv E F m) (opv E F k) (opv E F x)) (a9a E (a01 H) t (opv E F m) (opv E F k) (opv E F x))<;>rfl
@[go_sem] theorem e3l(t:TypeId)(x:Operand):a0n E draw call F H (.range t x)=a0h (oor (b10 E H.length t (opv E F x)) (b0h E H.length t (opv E F x))) λx=>bif x.2.fits H.length then some (x.1,a89 H x.2,⟨[],x.2.keys H.length⟩)else none:=a49 rfl rfl rfl
@[go_sem] theorem e8s(x:Operand)(t:TypeId):a0n E draw call F H (.call { callee:=.builtin .len,args:=#[x],argTypes:=#[t] })=a0h (b4f E (a01 H) t (opv E F x)) λv=>some (v,H,⟨a0g (opv E F x),[]⟩):=by refine(a1m (v:=b4f E (a01 H) t (opv E F x)) rfl rfl).trans ?_;simp[a5w]
@[go_sem] theorem e8t(x:Operand)(t:TypeId):a0n E draw call F H (.call { callee:=.builtin .cap,args:=#[x],argTypes:=#[t] })=a0h (c9m E t (opv E F x)) λv=>some (v,H,⟨a0g (opv E F x),[]⟩):=by refine(a1m (v:=c9m E t (opv E F x)) rfl rfl).trans ?_;simp[a5w]
@[go_sem] theorem e8r(x:Operand)(xs:List Operand)(ts:Array TypeId):a0n E draw call F H (.call { callee:=.builtin .min,args:=⟨x::xs⟩,argTypes:=ts })=a0h (d7q (opv E F x) (xs.map (opv E F))) λv=>some (v,H,⟨(x::xs).flatMap λx=>a0g (opv E F x),[]⟩):=a1m rfl rfl
@[go_sem] theorem e00(x y:Operand)(t u:TypeId):a0n E draw call F H (.call { callee:=.builtin .append,args:=#[x,y],argTypes:=#[t,u] })=a0h (oor (a3u E (a01 H) H.length t u (opv E F x) (opv E F y)) (a2f E H.length t u (opv E F x) (opv E F y))) λz=>bif z.2.fits H.length then some (z.1,a89 H z.2,⟨a0g (opv E F x)++a0g (opv E F y),z.2.keys H.length⟩)else none:=a49 rfl rfl (by simp[a5w])
@[go_sem] theorem d9i{E:Env}{n:Nat}{t u:TypeId}{x:AV}{b off len:Nat}{cap:Option Nat}:a2f E n t u (.slice b off len cap) x=none:=by unfold a2f;rfl
@[go_sem] theorem d88{E:Env}{n:Nat}{t u:TypeId}{b off len:Nat}{cap:Option Nat}:a2f E n t u .nilslice (.slice b off len cap)=none:=by unfold a2f;rfl
@[go_sem] theorem e4h{α:Type}(x:Option α):oor x none=x:=by cases x<;>rfl
@[go_sem] theorem e4g{α:Type}(x:α)(y:Option α):oor (some x) y=some x:=by rfl
@[go_sem] theorem d55{g:FuncId}{fs cs:List AV}{H H':a04}{σ:List Nat}:a5k E (.func (.func g) fs cs) H H' σ=(E.ro g&&σ.all λb=>b13 (a01 H b) (a01 H' b)):=by rfl
@[go_sem] theorem e2g{α:Type}(b:Bool)(x:α):(bif b then x else x)=x:=by cases b<;>rfl
@[go_sem] theorem d8y(ro:Bool)(σ:List Nat)(n:Nat):b47 ro σ n n=bif ro then[]else σ:=by unfold b47;rw[cond_eq_ite,if_pos (by rw[Nat.beq_eq])]
attribute [go_sem] List.range'_succ List.range'_zero
@[go_sem] theorem e60(f:Operand)(args:Array Operand)(ts:Array TypeId):a0n E draw call F H (.call { callee:=.value f,args:=args,argTypes:=ts })=a0h (a0d E draw call (opv E F f) (args.toList.map (opv E F)) H) λx=>some (x.1,x.2.1,⟨x.2.2,b47 (a5k E (opv E F f) H x.2.1 x.2.2) x.2.2 H.length x.2.1.length⟩):=by simp only[a0n];cases a0d E draw call (opv E F f) (args.toList.map (opv E F)) H<;>rfl
end
/-! ### tables read by type -/
section
variable (E:Env)
def b7s(t:TypeId):Option Bool:=(E.und t).map a21
def d6m(t:TypeId)(f:Nat):Option (Nat×TypeId):=match E.und t with|some (.struct fs)=>(fs[f]?).map λd=>(d.offset,d.type)|_=>none
def d7d(t:TypeId):Bool:=match E.und t with
 |some (.struct fs)=>fs.toList.all (λf=>(E.und f.type).isSome)
 |some (.array _ e)=>(E.und e).isSome
 |_=>false
def c9h(t:TypeId)(i:Nat):Option (Nat×Nat):=match E.und t with
 |some (.struct fs)=>(fs[i]?).map λf=>(f.offset,E.sz f.type)
 |some (.array _ e)=>some (i*E.sz e,E.sz e)
 |_=>none
def isT(t:TypeId):Bool:=(E.und t).isSome
end
section
variable {E:Env}{h:FHeap}
def d5n:Option Bool→List AV→Option AV
 |some true,cs=>some (.agg cs)
 |some false,cs=>cs.head?
 |none,_=>none
attribute [go_sem] d5n List.head?_cons
@[go_sem] theorem e0w(t:TypeId)(cs:List AV):a28 E t cs=bif decide (cs.length=E.sz t)then d5n (b7s E t) cs else none:=by
 unfold a28 b7s;have e:(cs.length==E.sz t)=decide (cs.length=E.sz t):=by by_cases h:cs.length=E.sz t<;>simp[h]
 rw[e];cases E.und t with
 |none=>cases decide (cs.length=E.sz t)<;>rfl
 |some d=>cases decide (cs.length=E.sz t)<;>simp[d5n]<;>cases a21 d<;>rfl
def fieldAt(E:Env)(p:AV)(o:Nat)(t:TypeId):Option AV:=
 bif decide (E.sz t≠0)&&isT E t then match p with
  |.ptr b i q=>some (.ptr b i (q+o))
  |.iptr cs=>some (.iptr (cs.drop o))
  |_=>none
 else none
attribute [go_sem] fieldAt
@[go_sem] theorem d4c(t:TypeId)(p:AV)(f:Nat):a4r E t p f=a0h (d6m E t f) λx=>fieldAt E p x.1 x.2:=by
 unfold a4r d6m fieldAt isT;cases E.und t with
 |none=>rfl
 |some d=>
  cases d<;>try rfl
  rename_i fs;simp only;cases fs[f]? with
  |none=>rfl
  |some fd=>
   by_cases h:E.sz fd.type=0
   ·simp[h,a0h]
   ·have e:(E.sz fd.type==0)=false:=beq_eq_false_iff_ne.2 h;simp[h,e,a0h];rfl
@[go_sem] theorem e5g(t:TypeId)(parts:List (Nat×AV)):b5x E t parts=bif d7d E t then a0h (E.zero t) λz=>a0h (b0i (c9h E t) z parts) λcs=>some (.agg cs)else none:=by
 unfold b5x d7d c9h;cases hz:E.zero t with
 |none=>
  simp only[a0h];cases E.und t with
  |none=>rfl
  |some d=>cases d<;>simp
 |some z=>
  cases hu:E.und t with
  |none=>rfl
  |some d=>
   cases d<;>try rfl
   ·simp only[a0h];split<;>simp_all<;>split<;>simp_all<;>rfl
   ·simp only[a0h];split<;>simp_all<;>split<;>simp_all<;>rfl
end
/-! ### values -/
section
variable {E:Env}{h:FHeap}{t:TypeId}{k:IntKind}{a b:Int}{p q:Bool}{c:Bool}
theorem ikb(k:IntKind):(k==k)=true:=by cases k<;>rfl
@[go_sem] theorem d2x:a4h E .add t (.int k a) (.int k b) c=some (.int k (k.wrap (a+b))):=by simp only[a4h,ikb,c0a,cond_true]
@[go_sem] theorem d2p:a4h E .sub t (.int k a) (.int k b) c=some (.int k (k.wrap (a-b))):=by simp only[a4h,ikb,c0a,cond_true]
@[go_sem] theorem e5j:a4h E .mul t (.int k a) (.int k b) c=some (.int k (k.wrap (a*b))):=by simp only[a4h,ikb,c0a,cond_true]
@[go_sem] theorem e5i(hb:(b=0)=False):a4h E .quo t (.int k a) (.int k b) c=some (.int k (k.wrap (a.tdiv b))):=by
 have:(b==0)=false:=by rw[beq_eq_false_iff_ne];exact λe=>hb▸e
 simp only[a4h,ikb,c0a,cond_true,this,cond_false]
@[go_sem] theorem e5h(hb:(b=0)=False):a4h E .rem t (.int k a) (.int k b) c=some (.int k (a.tmod b)):=by
 have:(b==0)=false:=by rw[beq_eq_false_iff_ne];exact λe=>hb▸e
 simp only[a4h,ikb,c0a,cond_true,this,cond_false]
def e1n(k:IntKind)(a b:Int):Int:=k.wrap (BitVec.ofInt k.bits a&&&BitVec.ofInt k.bits b).toNat
def ior(k:IntKind)(a b:Int):Int:=k.wrap (BitVec.ofInt k.bits a|||BitVec.ofInt k.bits b).toNat
def e6x(k:IntKind)(a b:Int):Int:=k.wrap (BitVec.ofInt k.bits a^^^BitVec.ofInt k.bits b).toNat
def e1g(k:IntKind)(a b:Int):Int:=k.wrap (a*2^(min b.toNat k.bits))
def d68(k:IntKind)(a b:Int):Int:=a.fdiv (2^(min b.toNat k.bits))
@[go_sem] theorem d2w:a4h E .and t (.int k a) (.int k b) c=some (.int k (e1n k a b)):=by simp only[a4h,ikb,c0a,cond_true,e1n]
@[go_sem] theorem d86:a4h E .or t (.int k a) (.int k b) c=some (.int k (ior k a b)):=by simp only[a4h,ikb,c0a,cond_true,ior]
@[go_sem] theorem d2o:a4h E .xor t (.int k a) (.int k b) c=some (.int k (e6x k a b)):=by simp only[a4h,ikb,c0a,cond_true,e6x]
@[go_sem] theorem d2r{k':IntKind}(hb:(b<0)=False):a4h E .shl t (.int k a) (.int k' b) c=some (.int k (e1g k a b)):=by
 have:decide (b<0)=false:=by rw[decide_eq_false_iff_not];exact λe=>hb▸e
 simp only[a4h,this,cond_false,e1g]
@[go_sem] theorem d2q{k':IntKind}(hb:(b<0)=False):a4h E .shr t (.int k a) (.int k' b) c=some (.int k (d68 k a b)):=by
 have:decide (b<0)=false:=by rw[decide_eq_false_iff_not];exact λe=>hb▸e
 simp only[a4h,this,cond_false,d68]
theorem f03(a b:Int):(a==b)=decide (a=b):=by
 by_cases h:a=b
 ·subst h;simp
 ·rw[beq_eq_false_iff_ne.2 h,decide_eq_false h]
@[go_sem] theorem d2v:a4h E .eql t (.int k a) (.int k b) c=some (.bool (decide (a=b))):=by simp only[a4h,ikb,c0a,cond_true,f03]
@[go_sem] theorem d2s:a4h E .neq t (.int k a) (.int k b) c=some (.bool (!decide (a=b))):=by simp only[a4h,ikb,c0a,cond_true,bne,f03]
@[go_sem] theorem d2t:a4h E .lss t (.int k a) (.int k b) c=some (.bool (decide (a<b))):=by simp only[a4h,ikb,c0a,cond_true]
@[go_sem] theorem e5k:a4h E .leq t (.int k a) (.int k b) c=some (.bool (decide (a≤b))):=by simp only[a4h,ikb,c0a,cond_true]
@[go_sem] theorem d2u:a4h E .gtr t (.int k a) (.int k b) c=some (.bool (decide (b<a))):=by simp only[a4h,ikb,c0a,cond_true]
@[go_sem] theorem e5l:a4h E .geq t (.int k a) (.int k b) c=some (.bool (decide (b≤a))):=by simp only[a4h,ikb,c0a,cond_true]
@[go_sem] theorem e85:aun .not (.bool p)=some (.bool (!p)):=by rfl
@[go_sem] theorem d9j(o:Option AObj)(r:a04):a01 (o::r) 0=o:=by simp[a01]
@[go_sem] theorem d9k(o:Option AObj)(r:a04)(n:Nat):a01 (o::r) (n+1)=a01 r n:=by simp[a01]
@[go_sem] theorem e3d(n:Nat):a01 [] n=none:=by rfl
def slT(E:Env)(t:TypeId):Option TypeId:=match E.und t with|some (.slice e)=>some e|_=>none
theorem a39{e:TypeId}:slT E t=some e↔E.und t=some (.slice e):=by
 unfold slT;constructor
 ·intro h;split at h
  ·rename_i heq;cases h;exact heq
  ·cases h
 ·intro h;rw[h]
def a88:Option AObj→Option (Nat×List (List AV))
 |some (.row k rows)=>some (k,rows)
 |_=>none
attribute [go_sem] a88
def rowAt(rows:List (List AV))(i:Int):Option (List AV):=if 0≤i then rows[i.toNat]? else none
@[go_sem] theorem e09(rows:List (List AV))(n:Nat):rowAt rows (n:Int)=rows[n]?:=by simp[rowAt]
theorem c65{rows:List (List AV)}{i:Int}(h:0≤i):rowAt rows i=rows[i.toNat]?:=by simp[rowAt,h]
def inR(i:Int)(n:Nat):Bool:=decide (0≤i)&&decide (i<n)
@[go_sem] theorem c7f(j n:Nat):inR (j:Int) n=decide (j<n):=by
 unfold inR;rw[decide_eq_true (by omega:(0:Int)≤j),Bool.true_and];by_cases h:j<n
 ·rw[decide_eq_true h,decide_eq_true (by omega)]
 ·rw[decide_eq_false h,decide_eq_false (by omega)]
theorem c3q{i:Int}{n:Nat}:c58 (.int k i) n=bif inR i n then some i.toNat else none:=rfl
@[go_sem] theorem d9g{b o n:Nat}{cp:Option Nat}(hs:(slT E t).isSome=true):b4f E h t (.slice b o n cp)=some (.int .i64 n):=by obtain⟨e,he⟩:=Option.isSome_iff_exists.1 hs;simp only[b4f,a39.1 he]
@[go_sem] theorem d7t{rows:List (List AV)}{cp:Option Nat}(hs:(slT E t).isSome=true):b4f E h t (.islice rows cp)=some (.int .i64 rows.length):=by obtain⟨e,he⟩:=Option.isSome_iff_exists.1 hs;simp only[b4f,a39.1 he]
@[go_sem] theorem e5c(hs:(slT E t).isSome=true):b4f E h t .nilslice=some (.int .i64 0):=by obtain⟨e,he⟩:=Option.isSome_iff_exists.1 hs;simp only[b4f,a39.1 he]
@[go_sem] theorem d82{rows:List (List AV)}{c:Nat}(hs:(slT E t).isSome=true):c9m E t (.islice rows (some c))=some (.int .i64 c):=by obtain⟨e,he⟩:=Option.isSome_iff_exists.1 hs;simp only[c9m,a39.1 he]
@[go_sem] theorem e5f(hs:(slT E t).isSome=true):c9m E t .nilslice=some (.int .i64 0):=by obtain⟨e,he⟩:=Option.isSome_iff_exists.1 hs;simp only[c9m,a39.1 he]
def e1m(E:Env)(e:Option TypeId)(r:Option (List AV)):Option AV:=match e,r with
 |some e,some r=>bif isT E e&&decide (r.length=E.sz e)then some (.iptr r)else none
 |_,_=>none
attribute [go_sem] e1m
theorem b5q(a b:Nat):(a==b)=decide (a=b):=by
 by_cases h:a=b
 ·subst h;simp
 ·rw[beq_eq_false_iff_ne.2 h,decide_eq_false h]
@[go_sem] theorem b32{rows:List (List AV)}{cp:Option Nat}{i:Int}:a11 E h t (.islice rows cp) (.int k i)=match slT E t with|some e=>e1m E (some e) (rowAt rows i)|none=>a11 E h t (.islice rows cp) (.int k i):=by
 cases hs:slT E t with
 |none=>rfl
 |some e=>
  have hu:=a39.1 hs;simp only[a11,hu,c3q,inR,e1m,isT];by_cases h0:0≤i
  ·rw[decide_eq_true h0,c65 h0];by_cases h1:i<rows.length
   ·rw[decide_eq_true h1];have:i.toNat<rows.length:=by omega
    simp only[z9e this,Bool.and_self,cond_true,b5q];cases(E.und e).isSome<;>rfl
   ·rw[decide_eq_false h1];rw[List.getElem?_eq_none (by omega)];simp
  ·simp[h0,rowAt]
def e72(E:Env)(e:Option TypeId)(ok:Bool)(r:Option (Nat×List (List AV)))(b j:Nat):Option AV:=match e,r with
 |some e,some r=>bif isT E e&&ok&&decide (r.1=E.sz e)then some (.ptr b j 0)else none
 |_,_=>none
attribute [go_sem] e72 Int.toNat_natCast
@[go_sem] theorem d92{b o n:Nat}{cp:Option Nat}{i:Int}:a11 E h t (.slice b o n cp) (.int k i)=match slT E t with|some e=>e72 E (some e) (inR i n) (a88 (h b)) b (o+i.toNat)|none=>a11 E h t (.slice b o n cp) (.int k i):=by
 cases hs:slT E t with
 |none=>rfl
 |some e=>
  have hu:=a39.1 hs;simp only[a11,hu,c3q,e72,isT];cases hb:h b with
  |none=>cases inR i n<;>simp[a88]
  |some o=>cases o<;>cases inR i n<;>simp[a88,b5q];cases(E.und e).isSome<;>simp
@[go_sem] theorem f1q(n:Nat):inR 0 n=decide (0<n):=c7f 0 n
@[go_sem] theorem e5t:Int.toNat 0=0:=by rfl
@[go_sem] theorem f1p(n:Nat):inR 1 n=decide (1<n):=c7f 1 n
@[go_sem] theorem e5s:Int.toNat 1=1:=by rfl
@[go_sem] theorem d9e{cs:List AV}:a51 E h t (.iptr cs)=a28 E t (cs.take (E.sz t)):=by rfl
@[go_sem] theorem e37{b i o:Nat}:a51 E h t (.ptr b i o)=a0h (a88 (h b)) λkr=>a0h (kr.2[i]?) λr=>a28 E t ((r.drop o).take (E.sz t)):=by
 unfold a51;cases hb:h b with
 |none=>simp only[hb];rfl
 |some ob=>cases ob<;>simp only[hb,a88,a0h];rename_i rows;cases rows[i]?<;>rfl
@[go_sem] theorem d99{b i o:Nat}{x:AV}:a6k E h t (.ptr b i o) x=a0h (a88 (h b)) λkr=>a0h (kr.2[i]?) λr=>
 bif decide (x.cells.length=E.sz t)&&isT E t&&Nat.ble (o+x.cells.length) r.length&&x.cells.all AV.storable then some (.set b (.row kr.1 (kr.2.set i (splice r o x.cells))))else none:=by
 unfold a6k;cases hb:h b with
 |none=>simp only[hb];rfl
 |some ob=>cases ob<;>simp only[hb,a88,a0h];rename_i rows;cases rows[i]?<;>simp only[isT,b5q]
@[go_sem] theorem f05{n:Nat}:d7p E n t=a0h (E.zero t) λz=>bif decide (0<z.length)then some (.ptr n 0 0,.new (.row z.length [z]))else none:=by
 unfold d7p;cases E.zero t with
 |none=>rfl
 |some z=>simp only[a0h];cases z<;>rfl
@[go_sem] theorem f06{n:Nat}{x:AV}:d84 n x=bif !x.isJunk&&decide (0<x.cells.length)then some (.ptr n 0 0,.new (.row x.cells.length [x.cells]))else none:=by
 have e:Nat.blt 0 x.cells.length=decide (0<x.cells.length):=by rw[Bool.eq_iff_iff];simp[Nat.blt_eq]
 cases x<;>simp only[d84,e,AV.isJunk,Bool.not_false,Bool.true_and,Bool.not_true,Bool.false_and,cond_false]
theorem c8n(a b:Nat):Nat.ble a b=decide (a≤b):=by rw[Bool.eq_iff_iff];simp[Nat.ble_eq]
theorem c1t(a b:Nat):Nat.blt a b=decide (a<b):=by rw[Bool.eq_iff_iff];simp[Nat.blt_eq]
attribute [go_sem] c8n c1t
@[go_sem] theorem e3q(r:List AV)(o:Nat)(cs:List AV):splice r o cs=r.take o++cs++r.drop (o+cs.length):=by rfl
def c4e(E:Env)(e:TypeId)(l c:Int):Bool:=decide (0≤l)&&decide (l≤c)&&decide (c≤281474976710656)&&decide ((E.bytes e:Int)*c≤281474976710656)
@[go_sem] theorem d4b{n:Nat}{k':IntKind}{l c:Int}:a3g E n t (.int k l) (.int k' c)=a0h (slT E t) λe=>a0h (E.zero e) λz=>bif c4e E e l c&&decide (0<z.length)then
 some (AV.slice n 0 l.toNat (some c.toNat),Eff.new (.row z.length (List.replicate c.toNat z)))else none:=by
 cases hs:slT E t with
 |none=>
  unfold a3g;unfold slT at hs;cases hu:E.und t with
  |none=>rfl
  |some d=>cases d<;>first|rfl|(rw[hu]at hs;cases hs)
 |some e=>have hu:=a39.1 hs;simp only[a3g,hu,a0h,c4e,c1t];cases E.zero e<;>rfl
theorem b6p{e:TypeId}{m:Nat}(h:m≤1000000000)(hb:E.bytes e≤1000):c4e E e (m:Int) (m:Int)=true:=by
 unfold c4e;have h1:E.bytes e*m≤1000*1000000000:=Nat.mul_le_mul hb h;have h2:((E.bytes e:Int)*(m:Int))=((E.bytes e*m:Nat):Int):=by simp
 rw[h2];simp only[Bool.and_eq_true,decide_eq_true_eq];omega
@[go_sem] theorem d2m{n m:Nat}{ps:List (Nat×AV)}:a2r E n t m ps=a0h (slT E t) λe=>a0h (E.zero e) λz=>bif decide (0<z.length)&&decide (m*z.length≤16777216)then
 a0h (b3y z.length (List.replicate m z) ps) λrows=>some (AV.slice n 0 m (some m),Eff.new (.row z.length rows))else none:=by
 cases hs:slT E t with
 |none=>
  unfold a2r;unfold slT at hs;cases hu:E.und t with
  |none=>rfl
  |some d=>cases d<;>first|rfl|(rw[hu]at hs;cases hs)
 |some e=>
  have hu:=a39.1 hs;simp only[a2r,hu,a0h];cases E.zero e with
  |none=>rfl
  |some z=>
   simp only[c1t,c8n];cases decide (0<z.length)&&decide (m*z.length≤16777216)with
   |false=>rfl
   |true=>simp only[cond_true];cases b3y z.length (List.replicate m z) ps<;>rfl
@[go_sem] theorem e32(m:Nat)(rows:List (List AV)):b3y m rows []=some rows:=by rfl
@[go_sem] theorem d9d(m:Nat)(rows:List (List AV))(i:Nat)(v:AV)(r:List (Nat×AV)):b3y m rows ((i,v)::r)=bif !v.isJunk&&decide (v.cells.length=m)&&decide (i<rows.length)then b3y m (rows.set i v.cells) r else none:=by simp only[b3y,b5q,c1t]
@[go_sem] theorem e38(pl:Nat→Option (Nat×Nat))(cs:List AV):b0i pl cs []=some cs:=by rfl
@[go_sem] theorem d9h(pl:Nat→Option (Nat×Nat))(cs:List AV)(i:Nat)(v:AV)(r:List (Nat×AV)):b0i pl cs ((i,v)::r)=a0h (pl i) λx=>bif !v.isJunk&&decide (v.cells.length=x.2)&&decide (x.1+x.2≤cs.length)then b0i pl (splice cs x.1 v.cells) r else none:=by
 simp only[b0i];cases pl i with
 |none=>rfl
 |some x=>simp only[a0h,b5q,c8n]
@[go_sem] theorem e27{H:a04}:a89 H .none=H:=by rfl
@[go_sem] theorem e52{H:a04}{o:AObj}:a89 H (.new o)=H++[some o]:=by rfl
@[go_sem] theorem e51{H:a04}{b:Nat}{o:AObj}:a89 H (.set b o)=H.set b (some o):=by rfl
@[go_sem] theorem e28{H:a04}{b:Nat}{o:AObj}:a89 H (.kill b o)=H.set b none++[some o]:=by rfl
@[go_sem] theorem e4z{n:Nat}{o:AObj}:Eff.fits n (.new o)=true:=by rfl
@[go_sem] theorem e20{n:Nat}:Eff.fits n .none=true:=by rfl
@[go_sem] theorem e4y{n b:Nat}{o:AObj}:Eff.fits n (.set b o)=decide (b<n):=c1t b n
@[go_sem] theorem e21{n b:Nat}{o:AObj}:Eff.fits n (.kill b o)=decide (b<n):=c1t b n
attribute [go_sem] List.all_cons List.all_nil List.set_cons_zero List.set_cons_succ List.set_nil List.replicate_zero
end
@[go_sem] theorem e2n(k:IntKind)(n:Int):AV.cells (.int k n)=[(AV.int k n)]:=by rfl
@[go_sem] theorem d3a(k:IntKind)(n:Int):AV.storable (.int k n)=true:=by rfl
@[go_sem] theorem e4o(k:IntKind)(n:Int):AV.isJunk (.int k n)=false:=by rfl
@[go_sem] theorem d8h(k:IntKind)(n:Int):a0g (.int k n)=[]:=by rfl
@[go_sem] theorem e2l(s:List UInt8):AV.cells (.str s)=[(AV.str s)]:=by rfl
@[go_sem] theorem e4n(s:List UInt8):AV.isJunk (.str s)=false:=by rfl
@[go_sem] theorem c9k:AV.cells .nilslice=[AV.nilslice]:=by rfl
@[go_sem] theorem c3w:AV.storable .nilslice=true:=by rfl
@[go_sem] theorem d0u:AV.isJunk .nilslice=false:=by rfl
@[go_sem] theorem c5n:a0g .nilslice=[]:=by rfl
@[go_sem] theorem d8f(b i o:Nat):a0g (.ptr b i o)=[b]:=by rfl
@[go_sem] theorem d4l(l:List AV):a0g (.iptr l)=[]:=by rfl
@[go_sem] theorem d7c(b o n:Nat)(c:Option Nat):AV.cells (.slice b o n c)=[(AV.slice b o n c)]:=by rfl
@[go_sem] theorem c9g(b o n:Nat)(c:Option Nat):AV.storable (.slice b o n c)=true:=by rfl
@[go_sem] theorem d90(b o n:Nat)(c:Option Nat):AV.isJunk (.slice b o n c)=false:=by rfl
@[go_sem] theorem d34(b o n:Nat)(c:Option Nat):a0g (.slice b o n c)=[b]:=by rfl
@[go_sem] theorem c9t(r:List (List AV))(c:Option Nat):a0g (.islice r c)=[]:=by rfl
@[go_sem] theorem e2m(b:Nat):AV.cells (.map b)=[(AV.map b)]:=by rfl
@[go_sem] theorem d39(b:Nat):AV.storable (.map b)=true:=by rfl
@[go_sem] theorem d8g(b:Nat):a0g (.map b)=[b]:=by rfl
@[go_sem] theorem e2o(l:List AV):AV.cells (.agg l)=l:=by rfl
@[go_sem] theorem e4p(l:List AV):AV.isJunk (.agg l)=false:=by rfl
@[go_sem] theorem e1c(n:Nat):Eff.keys n .none=[]:=by rfl
@[go_sem] theorem e4l(n:Nat)(o:AObj):Eff.keys n (.new o)=[n]:=by rfl
@[go_sem] theorem e4k(n b:Nat)(o:AObj):Eff.keys n (.set b o)=[b]:=by rfl
@[go_sem] theorem e1d(n b:Nat)(o:AObj):Eff.keys n (.kill b o)=[b,n]:=by rfl
@[go_sem] theorem f1d:1+1=2:=by rfl
@[go_sem] theorem f1c:2+1=3:=by rfl
@[go_sem] theorem f1b:3+1=4:=by rfl
@[go_sem] theorem f1a:4+1=5:=by rfl
@[go_sem] theorem f0z:5+1=6:=by rfl
@[go_sem] theorem f0y:6+1=7:=by rfl
@[go_sem] theorem f0x:7+1=8:=by rfl
@[go_sem] theorem f0w:8+1=9:=by rfl
@[go_sem] theorem f0v:9+1=10:=by rfl
@[go_sem] theorem e9o:10+1=11:=by rfl
@[go_sem] theorem e9n:11+1=12:=by rfl
@[go_sem] theorem e9m:12+1=13:=by rfl
@[go_sem] theorem e9l:13+1=14:=by rfl
@[go_sem] theorem e9k:14+1=15:=by rfl
@[go_sem] theorem e9j:15+1=16:=by rfl
@[go_sem] theorem e9i:16+1=17:=by rfl
@[go_sem] theorem e9g:2+2=4:=by rfl
@[go_sem] theorem e9f:2+3=5:=by rfl
@[go_sem] theorem e9e:2+4=6:=by rfl
@[go_sem] theorem e9d:2+5=7:=by rfl
@[go_sem] theorem e9c:2+6=8:=by rfl
@[go_sem] theorem e9b:2+7=9:=by rfl
@[go_sem] theorem e9a:2+8=10:=by rfl
@[go_sem] theorem e99:2+9=11:=by rfl
@[go_sem] theorem e6k:2+10=12:=by rfl
@[go_sem] theorem e98:3+2=5:=by rfl
@[go_sem] theorem e97:3+3=6:=by rfl
@[go_sem] theorem e9h:1+2=3:=by rfl
@[go_sem] theorem e3x{α:Type}(a:α):List.replicate 1 a=[a]:=by rfl
@[go_sem] theorem e3w{α:Type}(a:α):List.replicate 2 a=[a,a]:=by rfl
@[go_sem] theorem e3v{α:Type}(a:α):List.replicate 5 a=[a,a,a,a,a]:=by rfl
attribute [go_sem] List.map_cons List.map_nil List.append_nil List.nil_append List.cons_append List.length_cons List.length_nil a21 cond_true cond_false Option.map_some Option.map_none List.drop_zero List.drop_succ_cons List.take_succ_cons List.take_zero List.drop_nil List.take_nil List.getElem?_cons_zero List.getElem?_cons_succ List.getElem?_nil Nat.zero_add Nat.add_zero Nat.zero_mul Nat.mul_one decide_true decide_false Bool.and_true Bool.true_and Bool.and_false Bool.false_and Bool.or_true Bool.true_or Bool.or_false Bool.false_or Bool.not_true Bool.not_false Option.bind_some Option.isSome_some a2g decide_eq_true_eq
end Go.Ax
/- AxFlat: values that refer to no mutable block: renaming and freezing leave them; calls on them. -/
namespace Go.Ax
mutual
theorem a0f(π:Nat→Option Nat):∀(v:AV),refs v=[]→ren π v=v
 |.ptr ..,h=>by simp[refs]at h
 |.slice ..,h=>by simp[refs]at h
 |.map ..,h=>by simp[refs]at h
 |.yfn ..,h=>by simp[refs]at h
 |.func fn fs cs,h=>by simp only[refs,List.append_eq_nil_iff]at h;simp only[ren,a5l π fs h.1,a5l π cs h.2]
 |.iface t x,h=>by simp only[refs]at h;simp only[ren,a0f π x h]
 |.agg cs,h=>by simp only[refs]at h;simp only[ren,a5l π cs h]
 |.tuple cs,h=>by simp only[refs]at h;simp only[ren,a5l π cs h]
 |.junk,_|.bool _,_|.int ..,_|.str _,_|.nilptr,_|.nilslice,_|.nilmap,_|.nilfunc,_|.nilifc,_|.iptr _,_|.islice ..,_|.imap ..,_|.iset _,_=>rfl
theorem a5l(π:Nat→Option Nat):∀(l:List AV),a0a l=[]→b6h π l=l
 | [],_=>rfl
 |v::vs,h=>by simp only[a0a,List.append_eq_nil_iff]at h;simp only[b6h,a0f π v h.1,a5l π vs h.2]
end
theorem b2d(π:Nat→Option Nat){l:List AV}(h:a0a l=[]):l.map (ren π)=l:=by rw[←a63];exact a5l π l h
mutual
theorem a16(m:Nat)(top:Bool)(d:AV→Option AV):∀(v:AV),refs v=[]→a23 m top d v=some v
 |.ptr ..,h=>by simp[refs]at h
 |.slice ..,h=>by simp[refs]at h
 |.map ..,h=>by simp[refs]at h
 |.yfn ..,h=>by simp[refs]at h
 |.func fn fs cs,h=>by simp only[refs,List.append_eq_nil_iff]at h;simp only[a23,a5t m top d fs h.1,a5t m top d cs h.2]
 |.iface t x,h=>by simp only[refs]at h;simp only[a23,a16 m top d x h]
 |.agg cs,h=>by simp only[refs]at h;simp only[a23,a5t m top d cs h]
 |.tuple cs,h=>by simp only[refs]at h;simp only[a23,a5t m top d cs h]
 |.junk,_|.bool _,_|.int ..,_|.str _,_|.nilptr,_|.nilslice,_|.nilmap,_|.nilfunc,_|.nilifc,_|.iptr _,_|.islice ..,_|.imap ..,_|.iset _,_=>rfl
theorem a5t(m:Nat)(top:Bool)(d:AV→Option AV):∀(l:List AV),a0a l=[]→a4z m top d l=some l
 | [],_=>rfl
 |v::vs,h=>by simp only[a0a,List.append_eq_nil_iff]at h;simp only[a4z,a16 m top d v h.1,a5t m top d vs h.2]
end
def FlatR(rows:List (List AV)):Prop:=∀r∈rows,a0a r=[]
theorem FlatR.nil:FlatR []:=λr h=>by simp at h
theorem FlatR.cons{r:List AV}{rows:List (List AV)}(h:a0a r=[])(hs:FlatR rows):FlatR (r::rows):=by
 intro x hx;simp only[List.mem_cons]at hx;rcases hx with rfl|hx
 ·exact h
 ·exact hs x hx
theorem FlatR.append{a b:List (List AV)}(h:FlatR a)(k:FlatR b):FlatR (a++b):=by intro x hx;simp only[List.mem_append]at hx;exact hx.elim (h x) (k x)
theorem FlatR.map{α:Type}{f:α→List AV}{l:List α}(h:∀x,a0a (f x)=[]):FlatR (l.map f):=by intro x hx;simp only[List.mem_map]at hx;obtain⟨y,_,rfl⟩:=hx;exact h y
theorem a05{rows:List (List AV)}(h:FlatR rows):rows.flatMap a0a=[]:=by rw[List.flatMap_eq_nil_iff];exact h
theorem a02(π:Nat→Option Nat){rows:List (List AV)}(h:FlatR rows):rows.map (λr=>r.map (ren π))=rows:=by
 conv=>rhs;rw[←List.map_id rows]
 exact List.map_congr_left λr hr=>b2d π (h r hr)
theorem a3p(m:Nat)(d:AV→Option AV):∀{rows:List (List AV)},FlatR rows→b39 m d rows=some rows
 | [],_=>rfl
 |r::rs,h=>by simp only[b39,a5t m false d r (h r (by simp)),a3p m d (rows:=rs) (λx hx=>h x (by simp[hx]))]
/-! ### slices that are immutable, nil or not -/
def sl(c:Option (Option Nat))(rows:List (List AV)):AV:=match c,rows with
 |none,[]=>.nilslice
 |none,r::rs=>.islice (r::rs) none
 |some c,rows=>.islice rows c
@[go_sem] theorem c0o(c:Option Nat)(rows:List (List AV)):sl (some c) rows = .islice rows c:=by cases rows<;>rfl
@[go_sem] theorem c0p:sl none [] = .nilslice:=by rfl
@[go_sem] theorem b85(r:List AV)(rs:List (List AV)):sl none (r::rs) = .islice (r::rs) none:=by rfl
@[go_sem] theorem a64(c:Option (Option Nat))(rows:List (List AV)):refs (sl c rows)=[]:=by cases c<;>cases rows<;>rfl
@[go_sem] theorem e0i(π:Nat→Option Nat)(c:Option (Option Nat))(rows:List (List AV)):ren π (sl c rows)=sl c rows:=a0f π _ (a64 c rows)
@[go_sem] theorem d9r(c:Option (Option Nat))(rows:List (List AV)):a0g (sl c rows)=[]:=by cases c<;>cases rows<;>rfl
@[go_sem] theorem e55(c:Option (Option Nat))(rows:List (List AV)):(sl c rows).cells=[sl c rows]:=by cases c<;>cases rows<;>rfl
@[go_sem] theorem d4m(c:Option (Option Nat))(rows:List (List AV)):(sl c rows).storable=true:=by cases c<;>cases rows<;>rfl
@[go_sem] theorem e6w(c:Option (Option Nat))(rows:List (List AV)):(sl c rows).isJunk=false:=by cases c<;>cases rows<;>rfl
section
variable {E:Env}{h:FHeap}{t e:TypeId}{c:Option (Option Nat)}{rows:List (List AV)}{k:IntKind}
@[go_sem] theorem e8a(hs:(slT E t).isSome=true):b4f E h t (sl c rows)=some (.int .i64 rows.length):=by obtain⟨e,he⟩:=Option.isSome_iff_exists.1 hs;have ht:=a39.1 he;cases c<;>cases rows<;>simp[sl,b4f,ht]
@[go_sem] theorem e73{i:Int}:a11 E h t (sl c rows) (.int k i)=match slT E t with|some e=>e1m E (some e) (rowAt rows i)|none=>a11 E h t (sl c rows) (.int k i):=by
 cases c with
 |some c=>rw[c0o];exact b32
 |none=>cases rows with
  |nil=>
   cases hs:slT E t with
   |none=>rfl
   |some e=>
    have hu:=a39.1 hs;simp only[sl,a11,hu,e1m];cases h2:rowAt [] i with
    |none=>simp
    |some r=>unfold rowAt at h2;split at h2<;>simp at h2
  |cons a l=>exact b32
end
/-! ### calls -/
@[go_sem] theorem e7m:a3s 0 []=[]:=by rfl
@[go_sem] theorem e7l(a:AV):a3s 0 [a]=[(0,a)]:=by rfl
@[go_sem] theorem e7k(a b:AV):a3s 0 [a,b]=[(0,a),(1,b)]:=by rfl
@[go_sem] theorem e7j(a b c:AV):a3s 0 [a,b,c]=[(0,a),(1,b),(2,c)]:=by rfl
@[go_sem] theorem e7i(a b c d:AV):a3s 0 [a,b,c,d]=[(0,a),(1,b),(2,c),(3,d)]:=by rfl
@[go_sem] theorem e7h(a b c d e:AV):a3s 0 [a,b,c,d,e]=[(0,a),(1,b),(2,c),(3,d),(4,e)]:=by rfl
theorem a4w(n:Nat)(H1:a04):∀(b:Nat) (H:a04),a0u [] n H1 b H=H
 |_,[]=>rfl
 |b,o::r=>by simp only[a0u,List.idxOf?_nil,a4w n H1 (b+1) r]
theorem b9v{run:List AV→a04→Option (AV×a04)}{args:List AV}{H:a04}{v:AV}(ha:a0a args=[])(h:run args []=some (v,[]))(hv:refs v=[]):a1i run args H=some (v,H,[]):=by
 unfold a1i;have hr:a1t H a4d (a0a args) []=[]:=by rw[ha];rfl
 simp only[hr,a3x,List.all_nil,Bool.and_self,cond_true,b2d _ ha,a19,List.map_nil,h,a0f _ v hv,a4w,List.drop_nil,List.append_nil,List.length_nil]
theorem a07{E:Env}{draw:Bool}{call:CallF}{g:FuncId}{fs cs ar args:List AV}{H:a04}{v:AV}(hx:E.ext g=false)(hf:(E.fn g).isSome=true)(he:fs++ar++cs=args)(ha:a0a args=[])(h:call g args []=some (v,[]))(hv:refs v=[]) :
 a0d E draw call (.func (.func g) fs cs) ar H=some (v,H,[]):=by
 simp only[a0d,hx,hf,he,cond_true,cond_false,b9v ha h hv];cases draw
 ·rfl
 ·simp only[Bool.true_and];rw[show Nat.ble H.length H.length=true by rw[Nat.ble_eq];exact Nat.le_refl _];rfl
@[go_sem] theorem e48(k:IntKind)(n:Int):refs (.int k n)=[]:=by rfl
@[go_sem] theorem e0n(b:Bool):refs (.bool b)=[]:=by rfl
@[go_sem] theorem e45(s:List UInt8):refs (.str s)=[]:=by rfl
@[go_sem] theorem c0y(r:List (List AV))(c:Option Nat):refs (.islice r c)=[]:=by rfl
@[go_sem] theorem e0l(r:List AV):refs (.iptr r)=[]:=by rfl
@[go_sem] theorem b6i:refs .nilslice=[]:=by rfl
@[go_sem] theorem e49(l:List AV):refs (.agg l)=a0a l:=by rfl
@[go_sem] theorem e0m(f:Fn)(a b:List AV):refs (.func f a b)=a0a a++a0a b:=by rfl
@[go_sem] theorem e46(b i o:Nat):refs (.ptr b i o)=[b]:=by rfl
@[go_sem] theorem b4w(b i o:Nat)(c:Option Nat):refs (.slice b i o c)=[b]:=by rfl
@[go_sem] theorem e47(b:Nat):refs (.map b)=[b]:=by rfl
@[go_sem] theorem b2e:a0a []=[]:=by rfl
@[go_sem] theorem a3b(v:AV)(l:List AV):a0a (v::l)=refs v++a0a l:=by rfl
/-! ### what a loop's head keeps -/
/-! ### globals -/
end Go.Ax
/- AxBits: words of 64 bits; sums that fit. -/
namespace Go.Ax
def u64(x:BitVec 64):AV:=.int .u64 (x.toNat:Int)
section
variable {E:Env}{t:TypeId}{c:Bool}{x y:BitVec 64}{k:IntKind}
theorem b1x(x:BitVec 64):IntKind.u64.wrap (x.toNat:Int)=x.toNat:=by have:=x.isLt;exact IntWalk.u64_in _ ⟨by omega,by omega⟩
theorem a5n(x:BitVec 64):BitVec.ofInt 64 (x.toNat:Int)=x:=by apply BitVec.eq_of_toNat_eq;simp
@[go_sem] theorem e88:a4h E .and t (u64 x) (u64 y) c=some (u64 (x&&&y)):=by have h1:=a5n x;have h2:=a5n y;simp only[u64,d2w,e1n,IntKind.bits,h1,h2,b1x];rfl
@[go_sem] theorem e95:a4h E .or t (u64 x) (u64 y) c=some (u64 (x|||y)):=by have h1:=a5n x;have h2:=a5n y;simp only[u64,d86,ior,IntKind.bits,h1,h2,b1x];rfl
@[go_sem] theorem e5p:a4h E .xor t (u64 x) (u64 y) c=some (u64 (x^^^y)):=by have h1:=a5n x;have h2:=a5n y;simp only[u64,d2o,e6x,IntKind.bits,h1,h2,b1x];rfl
@[go_sem] theorem e7g:a4h E .eql t (u64 x) (u64 y) c=some (.bool (decide (x=y))):=by
 simp only[u64,d2v]
 congr 2
 have:((x.toNat:Int)=(y.toNat:Int))↔x=y:=⟨λh=>BitVec.eq_of_toNat_eq (by omega),λh=>by rw[h]⟩
 simp only[this]
theorem a8a(n:Int):IntKind.u64.wrap n=n%18446744073709551616:=by simp[IntKind.wrap,IntKind.bits,IntKind.signed]
@[go_sem] theorem e8e:a4h E .add t (u64 x) (u64 y) c=some (u64 (x+y)):=by
 simp only[u64,d2x,a8a,BitVec.toNat_add]
 congr 2
@[go_sem] theorem e5u:a4h E .sub t (u64 x) (u64 y) c=some (u64 (x-y)):=by
 have hx:=x.isLt;have hy:=y.isLt;simp only[u64,d2p,a8a,BitVec.toNat_sub]
 congr 2
 omega
theorem d6z(m n:Nat)(h:m<2^64):m/2^(min n 64)=m/2^n:=by
 by_cases hn:n≤64
 ·rw[Nat.min_eq_left hn]
 ·rw[Nat.min_eq_right (by omega),Nat.div_eq_of_lt h,Nat.div_eq_of_lt (Nat.lt_of_lt_of_le h (Nat.pow_le_pow_right (by omega) (by omega)))]
@[go_sem] theorem d4s{k':IntKind}{b:Int}(hb:(b<0)=False):a4h E .shr t (u64 x) (.int k' b) c=some (u64 (x>>>b.toNat)):=by
 have hx:=x.isLt;simp only[u64,d2q hb,d68,IntKind.bits]
 congr 2
 rw[BitVec.toNat_ushiftRight,Nat.shiftRight_eq_div_pow,←d6z x.toNat b.toNat hx,Int.fdiv_eq_ediv_of_nonneg _ (Int.pow_nonneg (by decide)),Int.natCast_ediv,Int.natCast_pow];rfl
@[go_sem] theorem e3r:a4h E .shr t (u64 x) (u64 y) c=some (u64 (x>>>y.toNat)):=by rw[show u64 y = .int .u64 (y.toNat:Int)from rfl,d4s (eq_false (by omega))];simp
theorem d5w(m n:Nat):m*2^(min n 64)%18446744073709551616=m*2^n%18446744073709551616:=by
 by_cases hn:n≤64
 ·rw[Nat.min_eq_left hn]
 ·rw[Nat.min_eq_right (by omega)];have:2^n=2^64*2^(n-64):=by rw[←Nat.pow_add];congr 1;omega
  rw[this,show(18446744073709551616:Nat)=2^64 by decide,Nat.mul_mod_left,Nat.mul_left_comm,Nat.mul_mod_right]
@[go_sem] theorem d4t{k':IntKind}{b:Int}(hb:(b<0)=False):a4h E .shl t (u64 x) (.int k' b) c=some (u64 (x<<<b.toNat)):=by
 simp only[u64,d2r hb,e1g,IntKind.bits,a8a]
 congr 2
 rw[BitVec.toNat_shiftLeft,Nat.shiftLeft_eq,show(2:Nat)^64=18446744073709551616 by decide,←d5w];rw[Int.natCast_emod,Int.natCast_mul,Int.natCast_pow];rfl
@[go_sem] theorem e3s:a4h E .shl t (u64 x) (u64 y) c=some (u64 (x<<<y.toNat)):=by rw[show u64 y = .int .u64 (y.toNat:Int)from rfl,d4t (eq_false (by omega))];simp
theorem d4i(n:Nat)(h:n<18446744073709551616):AV.int .u64 (n:Int)=u64 (BitVec.ofNat 64 n):=by unfold u64;rw[BitVec.toNat_ofNat,Nat.mod_eq_of_lt (by omega)]
@[go_sem] theorem e8j{n:Int}(h0:(0≤n)=True)(h1:(n<18446744073709551616)=True):AV.int .u64 n=u64 (BitVec.ofInt 64 n):=by
 have h0:0≤n:=of_eq_true h0;have h1:n<18446744073709551616:=of_eq_true h1;unfold u64
 congr 1
 rw[BitVec.toNat_ofInt];omega
@[go_sem] theorem e44:refs (u64 x)=[]:=by rfl
@[go_sem] theorem e2k:(u64 x).cells=[u64 x]:=by rfl
@[go_sem] theorem d38:(u64 x).storable=true:=by rfl
@[go_sem] theorem e4m:(u64 x).isJunk=false:=by rfl
@[go_sem] theorem d8e:a0g (u64 x)=[]:=by rfl
@[go_sem] theorem d5b(π:Nat→Option Nat):ren π (u64 x)=u64 x:=by rfl
def d0x(E:Env)(t:TypeId):Option IntKind:=match E.und t with|some (.int k)=>some k|_=>none
theorem d0w{k:IntKind}:d0x E t=some k→E.und t=some (.int k):=by
 unfold d0x;intro h;split at h
 ·rename_i heq;cases h;exact heq
 ·cases h
def cvI(k:IntKind)(n:Int):AV:=.int k (k.wrap n)
@[go_sem] theorem e7s(n:Int):cvI .u64 n=u64 (BitVec.ofInt 64 n):=by
 simp only[cvI,u64,a8a,BitVec.toNat_ofInt]
 congr 1
 omega
@[go_sem] theorem e7t(n:Int):cvI .i64 n = .int .i64 (IntKind.i64.wrap n):=by rfl
@[go_sem] theorem f02(n:Int):cvI .u8 n = .int .u8 (IntKind.u8.wrap n):=by rfl
@[go_sem] theorem d1j{h:FHeap}{s d:TypeId}{k:IntKind}{n:Int}(hs:isT E s=true):a6l E h s d (.int k n)=match d0x E d with|some k'=>some (cvI k' n)|none=>a6l E h s d (.int k n):=by
 cases hd:d0x E d with
 |none=>rfl
 |some k'=>have hu:=d0w hd;obtain⟨ds,hds⟩:=Option.isSome_iff_exists.1 (show(E.und s).isSome=true from hs);simp only[a6l,hu,hds];cases ds<;>simp[d2l,hu,hds,cvI]
@[go_sem] theorem e54{h:FHeap}{s d:TypeId}(hs:isT E s=true):a6l E h s d (u64 x)=match d0x E d with|some k'=>some (cvI k' x.toNat)|none=>a6l E h s d (u64 x):=by unfold u64;exact d1j hs
theorem w64{n:Int}(h1:-9223372036854775808≤n)(h2:n≤9223372036854775807):IntKind.i64.wrap n=n:=IntWalk.i64_in n ⟨h1,h2⟩
end
end Go.Ax
/- AxWp: what a statement comes to, by a condition on the end. -/
namespace Go.Ax
@[go_sem] theorem e1e(F:Frm):a1l [] F=[]:=by rfl
@[go_sem] theorem d8z(s:Nat)(r:List Nat)(F:Frm):a1l (s::r) F=(s,a1f F s)::a1l r F:=by rfl
@[go_sem] theorem b3g{v:AV}{H:a04}(h:refs v=[]):a0j false 0 v H=some (v,[]):=by simp only[a0j,a16 _ _ _ _ h,List.take_zero,List.map_nil,cond_false]
@[go_sem] theorem e0v(v:AV):a2p [v]=v:=by rfl
@[go_sem] theorem c6i(v w:AV)(l:List AV):a2p (v::w::l) = .tuple (v::w::l):=by rfl
@[go_sem] theorem e59{E:Env}{F:Frm}{H:a04}:a0z E F H []=some []:=by rfl
@[go_sem] theorem e58{E:Env}{F:Frm}{H:a04}(t:Nat)(r:List ResultVar):a0z E F H (.tmp t::r)=a0h (a0z E F H r) λvs=>some (a1f F t::vs):=by simp only[a0z];cases a0z E F H r<;>rfl
@[go_sem] theorem e34{E:Env}{F:Frm}{H:a04}(a t:Nat)(r:List ResultVar):a0z E F H (.cell a t::r)=a0h (a51 E (a01 H) t (a1f F a)) λv=>a0h (a0z E F H r) λvs=>some (v::vs):=by simp only[a0z];cases a51 E (a01 H) t (a1f F a)<;>cases a0z E F H r<;>rfl
abbrev a6h:=AExit→Frm→a04→Prop
def bk(id:Nat)(Q:a6h):a6h:=λe F H=>match e with|.exit i=>if i=id then Q .normal F H else Q (.exit i) F H|e=>Q e F H
def WpR:Code→Cx→Frm→a04→a6h→Prop
 |.skip,_,F,H,Q=>Q .normal F H
 |.label _,_,F,H,Q=>Q .normal F H
 |.exit id,_,F,H,Q=>Q (.exit id) F H
 |.ret,_,F,H,Q=>Q .ret F H
 |.seq a b,x,F,H,Q=>WpR a x F H λe F H=>match e with|.normal=>WpR b x F H Q|e=>Q e F H
 |.block id b,x,F,H,Q=>WpR b { x with cur:=id } F H (bk id Q)
 |.scope b,x,F,H,Q=>WpR b x F H Q
 |c,x,F,H,Q=>∃e F' H',Ev x c F H (e,F',H')∧Q e F' H'
def Wp(x:Cx)(c:Code)(F:Frm)(H:a04)(Q:a6h):Prop:=WpR c x F H Q
def sq(x:Cx)(b:Code)(Q:a6h):a6h:=λe F H=>match e with|.normal=>Wp x b F H Q|e=>Q e F H
def cx(E:Env)(M:List Fact)(m N:Nat)(g:FuncId)(cur:Nat):Cx:=⟨E,M,m,N,E.keep g,cur⟩
def lp{σ:Type}(m:Nat)(keep:List Nat)(Fs:σ→Frm)(Hs:σ→a04)(meas:σ→Nat)(Inv:σ→Prop)(n:Nat)(Q:a6h):a6h:=λe F H=>match e with|.normal=>∃s,gcD m keep F H=some (Fs s,Hs s)∧meas s<n∧Inv s|e=>Q e F H
def fq(E:Env)(g:FuncId)(m:Nat)(results:List ResultVar)(r:AV×a04):a6h:=λe F H=>match e with|.exit _=>False|_=>∃vs,a0z E F H results=some vs∧a0j (E.thaw g) m (a2p vs) H=some r
def lpJ(m:Nat)(keep:List Nat)(J:Nat→Frm→a04→Prop)(n:Nat)(Q:a6h):a6h:=λe F H=>match e with|.normal=>∃F1 H1 n',gcD m keep F H=some (F1,H1)∧n'<n∧J n' F1 H1|e=>Q e F H
@[irreducible] def d3v:AV→Option Bool|.bool b=>some b|_=>none
@[go_sem] theorem e9q:d3v (.bool true)=some true:=by unfold d3v;rfl
@[go_sem] theorem e9r:d3v (.bool false)=some false:=by unfold d3v;rfl
theorem d61{v:AV}{t:Bool}(h:d3v v=some t):v = .bool t:=by
 unfold d3v at h;split at h
 ·cases h;rfl
 ·cases h
def hs(E:Env)(M:List Fact)(N:Nat):Code→Frm→a04→Frm→a04→List LogE→Bool→Prop
 |.region id ops draw,F,H,F1,H1,log,t=>(a6i E draw N (sem E M) ops.toList ops.toList [] F H,true)=(some (F1,H1,log),t)
 |.cond c a b,F,H,F1,H1,log,t=>(d3v (opv E F c),F,H,[])=(some t,F1,H1,log)
 |_,_,_,_,_,_,_=>False
def sd:Code→List LogE→Bool
 |.region id ops draw,log=>!draw||logOk ops.toList log.length log
 |_,_=>true
def ct(x:Cx):Code→Bool→Frm→a04→a6h→Prop
 |.region id ops draw,t,F,H,Q=>Q .normal F H
 |.cond c a b,t,F,H,Q=>Wp x (bif t then a else b) F H Q
 |_,_,_,_,_=>False
@[go_sem] theorem f4c(E:Env)(M:List Fact)(N:Nat)(id ops draw F H F1 H1 log t):hs E M N (.region id ops draw) F H F1 H1 log t=((a6i E draw N (sem E M) ops.toList ops.toList [] F H,true)=(some (F1,H1,log),t)):=by rfl
@[go_sem] theorem f4d(E:Env)(M:List Fact)(N:Nat)(c a b F H F1 H1 log t):hs E M N (.cond c a b) F H F1 H1 log t=((d3v (opv E F c),F,H,[])=(some t,F1,H1,log)):=by rfl
theorem wx:(∀x id ops draw t F H Q,ct x (.region id ops draw) t F H Q=Q .normal F H)∧(∀x c a b F H Q,ct x (.cond c a b) true F H Q=Wp x a F H Q)∧(∀x c a b F H Q,ct x (.cond c a b) false F H Q=Wp x b F H Q):=⟨λ_ _ _ _ _ _ _ _=>rfl,λ_ _ _ _ _ _ _=>rfl,λ_ _ _ _ _ _ _=>rfl⟩
theorem ww:(∀x F H Q,Wp x .skip F H Q=Q .normal F H)∧(∀x F H Q l,Wp x (.label l) F H Q=Q .normal F H)∧(∀x F H Q i,Wp x (.exit i) F H Q=Q (.exit i) F H)∧(∀x F H Q,Wp x .ret F H Q=Q .ret F H)∧
 (∀x a b F H Q,Wp x (.seq a b) F H Q=Wp x a F H (sq x b Q))∧(∀E M m N g cur i b F H Q,Wp (cx E M m N g cur) (.block i b) F H Q=Wp (cx E M m N g i) b F H (bk i Q))∧(∀x b F H Q,Wp x (.scope b) F H Q=Wp x b F H Q)∧
 (∀x b F H Q,sq x b Q .normal F H=Wp x b F H Q)∧(∀x b F H Q i,sq x b Q (.exit i) F H=Q (.exit i) F H)∧(∀x b F H Q,sq x b Q .ret F H=Q .ret F H)∧
 (∀i F H Q,bk i Q .normal F H=Q .normal F H)∧(∀i F H Q,bk i Q .ret F H=Q .ret F H)∧(∀i F H Q,bk i Q (.exit i) F H=Q .normal F H)∧(∀i j F H Q,(j=i)=False→bk i Q (.exit j) F H=Q (.exit j) F H)∧
 (∀m keep J n Q i F H,lpJ m keep J n Q (.exit i) F H=Q (.exit i) F H)∧(∀m keep J n Q F H,lpJ m keep J n Q .ret F H=Q .ret F H)∧
 (∀(σ:Type) m keep (Fs:σ→Frm) Hs meas Inv n Q i F H,lp m keep Fs Hs meas Inv n Q (.exit i) F H=Q (.exit i) F H)∧(∀(σ:Type) m keep (Fs:σ→Frm) Hs meas Inv n Q F H,lp m keep Fs Hs meas Inv n Q .ret F H=Q .ret F H)∧
 (∀a b:Code,cond true a b=a)∧(∀a b:Code,cond false a b=b)∧
 (∀x id ops draw t F H Q,ct x (.region id ops draw) t F H Q=Q .normal F H)∧(∀x c a b F H Q,ct x (.cond c a b) true F H Q=Wp x a F H Q)∧(∀x c a b F H Q,ct x (.cond c a b) false F H Q=Wp x b F H Q):=
 ⟨λ_ _ _ _=>rfl,λ_ _ _ _ _=>rfl,λ_ _ _ _ _=>rfl,λ_ _ _ _=>rfl,λ_ _ _ _ _ _=>rfl,λ_ _ _ _ _ _ _ _ _ _ _=>rfl,λ_ _ _ _ _=>rfl,λ_ _ _ _ _=>rfl,λ_ _ _ _ _ _=>rfl,λ_ _ _ _ _=>rfl,
  λ_ _ _ _=>rfl,λ_ _ _ _=>rfl,λi F H Q=>by simp only[bk,if_pos],λi j F H Q h=>by simp only[bk,h,if_false],λ_ _ _ _ _ _ _ _=>rfl,λ_ _ _ _ _ _ _=>rfl,λ_ _ _ _ _ _ _ _ _ _ _ _=>rfl,λ_ _ _ _ _ _ _ _ _ _ _=>rfl,λ_ _=>rfl,λ_ _=>rfl,wx⟩
theorem b7w:∀(c:Code) {x:Cx} {F:Frm} {H:a04} {Q:a6h},Wp x c F H Q→∃e F' H',Ev x c F H (e,F',H')∧Q e F' H':=by
 intro c
 induction c with
 |skip=>intro x F H Q h;exact⟨_,_,_,Ev.skip,h⟩
 |label l=>intro x F H Q h;exact⟨_,_,_,Ev.label,h⟩
 |exit i=>intro x F H Q h;exact⟨_,_,_,Ev.leave,h⟩
 |ret=>intro x F H Q h;exact⟨_,_,_,Ev.ret,h⟩
 |seq a b iha ihb=>
  intro x F H Q h;obtain⟨e,F',H',h1,h2⟩:=iha h;cases e with
  |normal=>obtain⟨e2,F2,H2,h3,h4⟩:=ihb h2;exact⟨e2,F2,H2,Ev.seq h1 h3,h4⟩
  |exit id=>exact⟨_,_,_,Ev.seq_exit h1,h2⟩
  |ret=>exact⟨_,_,_,Ev.seq_ret h1,h2⟩
 |block id b ih=>
  intro x F H Q h;obtain⟨e,F',H',h1,h2⟩:=ih h;cases e with
  |normal=>exact⟨_,_,_,Ev.block h1,h2⟩
  |exit i=>
   by_cases hi:i=id
   ·subst hi;simp only[bk,if_pos]at h2;exact⟨_,_,_,Ev.block_exit h1,h2⟩
   ·simp only[bk,if_neg hi]at h2;exact⟨_,_,_,Ev.block_on h1 (by simpa using hi),h2⟩
  |ret=>exact⟨_,_,_,Ev.block_ret h1,h2⟩
 |scope b ih=>intro x F H Q h;obtain⟨e,F',H',h1,h2⟩:=ih h;exact⟨e,F',H',Ev.scope h1,h2⟩
 |_=>intro x F H Q h;exact h
theorem b1u:∀{c:Code} {x:Cx} {F:Frm} {H:a04} {Q Q':a6h},Wp x c F H Q→(∀e F H,Q e F H→Q' e F H)→Wp x c F H Q':=by
 intro c
 induction c with
 |skip=>intro x F H Q Q' h hq;exact hq _ _ _ h
 |label l=>intro x F H Q Q' h hq;exact hq _ _ _ h
 |exit i=>intro x F H Q Q' h hq;exact hq _ _ _ h
 |ret=>intro x F H Q Q' h hq;exact hq _ _ _ h
 |seq a b iha ihb=>
  intro x F H Q Q' h hq;refine iha (Q:=sq x b Q) (Q':=sq x b Q') h ?_;intro e F H h;cases e with
  |normal=>exact ihb (x:=x) h hq
  |exit id=>exact hq _ _ _ h
  |ret=>exact hq _ _ _ h
 |block id b ih=>
  intro x F H Q Q' h hq;refine ih (Q:=bk id Q) (Q':=bk id Q') h ?_;intro e F H h;cases e with
  |normal=>exact hq _ _ _ h
  |exit i=>
   simp only[bk]at h⊢;split
   ·rename_i hi;rw[if_pos hi]at h;exact hq _ _ _ h
   ·rename_i hi;rw[if_neg hi]at h;exact hq _ _ _ h
  |ret=>exact hq _ _ _ h
 |scope b ih=>intro x F H Q Q' h hq;exact ih (x:=x) h hq
 |_=>intro x F H Q Q' h hq;obtain⟨e,F',H',h1,h2⟩:=h;exact⟨e,F',H',h1,hq _ _ _ h2⟩
section
variable {x:Cx}{F F1:Frm}{H H1:a04}{Q:a6h}
theorem xs{E:Env}{M:List Fact}{m N:Nat}{g:FuncId}{cur:Nat}{id ops draw}{log:List LogE}(h:a6i E draw N (sem E M) ops.toList ops.toList [] F H=some (F1,H1,log))(hl:(!draw||logOk ops.toList log.length log)=true)(hq:Q .normal F1 H1):Wp (cx E M m N g cur) (.region id ops draw) F H Q:=⟨_,_,_,Ev.region h hl,hq⟩
theorem xI{E:Env}{M:List Fact}{m N:Nat}{g:FuncId}{cur:Nat}{c a b t}(hc:opv E F c = .bool t)(h:Wp (cx E M m N g cur) (bif t then a else b) F H Q):Wp (cx E M m N g cur) (.cond c a b) F H Q:=by
 cases t
 ·obtain⟨e,F',H',h1,h2⟩:=b7w _ h;exact⟨e,F',H',Ev.cond_f hc h1,h2⟩
 ·obtain⟨e,F',H',h1,h2⟩:=b7w _ h;exact⟨e,F',H',Ev.cond_t hc h1,h2⟩
theorem xT{a b}(h:Wp x a F H Q):Wp x (bif true then a else b) F H Q:=h
theorem xF{a b}(h:Wp x b F H Q):Wp x (bif false then a else b) F H Q:=h
theorem d2z{E:Env}{M:List Fact}{m N:Nat}{g:FuncId}{cur:Nat}{keep:List Nat}{b:Code}(hk:E.keep g cur=keep)(J:Nat→Frm→a04→Prop)(n0:Nat)(h0:∃F1 H1,gcD m keep F H=some (F1,H1)∧J n0 F1 H1)
 (h:∀n F1 H1,J n F1 H1→Wp (cx E M m N g cur) b F1 H1 (lpJ m keep J n Q)):∃r:AExit×Frm×a04,Q r.1 r.2.1 r.2.2∧EvL (cx E M m N g cur) b F H r:=by
 subst hk;have key:∀n F H F1 H1,gcD m (E.keep g cur) F H=some (F1,H1)→J n F1 H1→∃r:AExit×Frm×a04,Q r.1 r.2.1 r.2.2∧EvL (cx E M m N g cur) b F H r:=by
  intro n
  induction n using Nat.strongRecOn with
  |ind n ih=>
   intro F H F1 H1 hg hJ;obtain⟨e,F',H',h1,h2⟩:=b7w _ (h n F1 H1 hJ);cases e with
   |normal=>obtain⟨F2,H2,n',g1,g2,g3⟩:=h2;obtain⟨r,hr,hl⟩:=ih n' g2 F' H' F2 H2 g1 g3;exact⟨r,hr,EvL.again (x:=cx E M m N g cur) hg h1 hl⟩
   |exit id=>exact⟨(_,_,_),h2,EvL.leave (x:=cx E M m N g cur) hg h1 (λh=>by cases h)⟩
   |ret=>exact⟨(_,_,_),h2,EvL.leave (x:=cx E M m N g cur) hg h1 (λh=>by cases h)⟩
 obtain⟨F1,H1,hg,hJ⟩:=h0;exact key n0 F H F1 H1 hg hJ
theorem a0t{E:Env}{M:List Fact}{m N:Nat}{g:FuncId}{cur:Nat}{keep:List Nat}{b:Code}(hk:E.keep g cur=keep)(J:Nat→Frm→a04→Prop)(n0:Nat)(h0:∃F1 H1,gcD m keep F H=some (F1,H1)∧J n0 F1 H1)
 (h:∀n F1 H1,J n F1 H1→Wp (cx E M m N g cur) b F1 H1 (lpJ m keep J n Q))(hz:c9i keep=false:=by rfl)(hx:a5o b=none:=by rfl):Wp (cx E M m N g cur) (.loop b) F H Q:=by
 obtain⟨⟨e,F',H'⟩,hr,hl⟩:=d2z hk J n0 h0 h;exact⟨e,F',H',Ev.loop hx (by rw[←hk]at hz;exact hz) hl,hr⟩
def fz(m:Nat)(Q:a6h):a6h:=λe F H=>Q e (c1f m H F) (b9b m H)
theorem c5j{E:Env}{M:List Fact}{m N:Nat}{g:FuncId}{cur:Nat}{keep:List Nat}{b:Code}(hk:E.keep g cur=keep)(hz:c9i keep=true)(j:Nat)(hj:c4q keep=j)(J:Nat→Frm→a04→Prop)(n0:Nat)(h0:∃F1 H1,gcD m keep F H=some (F1,H1)∧J n0 F1 H1)
 (h:∀n F1 H1,J n F1 H1→Wp (cx E M m N g cur) b F1 H1 (lpJ m keep J n (fz (m+j) Q)))(hx:a5o b=none:=by rfl):Wp (cx E M m N g cur) (.loop b) F H Q:=by
 obtain⟨⟨e,F',H'⟩,hr,hl⟩:=d2z hk J n0 h0 h;subst hk;subst hj;exact⟨e,_,_,Ev.loopZ hx (x:=cx E M m N g cur) hz hl,hr⟩
theorem c27{E:Env}{M:List Fact}{m N:Nat}{g:FuncId}{cur:Nat}{keep:List Nat}{b:Code}(hk:E.keep g cur=keep)(hz:c9i keep=true)(J:Nat→Frm→a04→Prop)(n0:Nat)(h0:∃F1 H1,gcD m keep F H=some (F1,H1)∧J n0 F1 H1)
 (h:∀n F1 H1,J n F1 H1→Wp (cx E M m N g cur) b F1 H1 (lpJ m keep J n (fz m Q)))(hx:a5o b=none:=by rfl)(hj:c4q keep=0:=by rfl):Wp (cx E M m N g cur) (.loop b) F H Q:=c5j hk hz 0 hj J n0 h0 h hx
theorem a3i{E:Env}{M:List Fact}{m N:Nat}{g:FuncId}{cur:Nat}{keep:List Nat}{b:Code}(hk:E.keep g cur=keep){σ:Type}(Fs:σ→Frm)(Hs:σ→a04)(meas:σ→Nat)(Inv:σ→Prop)(s0:σ)(h0:gcD m keep F H=some (Fs s0,Hs s0))(hi:Inv s0)
 (h:∀s,Inv s→Wp (cx E M m N g cur) b (Fs s) (Hs s) (lp m keep Fs Hs meas Inv (meas s) Q))(hz:c9i keep=false:=by rfl)(hx:a5o b=none:=by rfl):Wp (cx E M m N g cur) (.loop b) F H Q:=by
 refine a0t hk (λn F1 H1=>∃s,F1=Fs s∧H1=Hs s∧n=meas s∧Inv s) (meas s0) ⟨_,_,h0,s0,rfl,rfl,rfl,hi⟩ ?_ hz hx
 rintro n F1 H1 ⟨s,rfl,rfl,rfl,hs⟩
 refine b1u (h s hs) ?_;intro e F' H' h2;cases e with
 |normal=>obtain⟨s',g1,g2,g3⟩:=h2;exact⟨_,_,_,g1,g2,s',rfl,rfl,rfl,g3⟩
 |exit id=>exact h2
 |ret=>exact h2
theorem a0b{m:Nat}{keep:List Nat}{J:Nat→Frm→a04→Prop}{n:Nat}(n':Nat)(hn:n'<n)(h:∃F1 H1,gcD m keep F H=some (F1,H1)∧J n' F1 H1):lpJ m keep J n Q .normal F H:=by obtain⟨F1,H1,h1,h2⟩:=h;exact⟨F1,H1,n',h1,hn,h2⟩
theorem b0s{σ:Type}{m:Nat}{keep:List Nat}{Fs:σ→Frm}{Hs:σ→a04}{meas:σ→Nat}{Inv:σ→Prop}{n:Nat}(s:σ)(h1:gcD m keep F H=some (Fs s,Hs s))(h2:meas s<n)(h3:Inv s):lp m keep Fs Hs meas Inv n Q .normal F H:=⟨s,h1,h2,h3⟩
end
theorem e07{E:Env}{M:List Fact}{g:FuncId}{args:List AV}{H:a04}{code:Code}{N:Nat}{results:List ResultVar}{r:AV×a04}
 (hfn:E.fn g=some ⟨code,N,results⟩)(hno:∀y∈M,y.g≠g)(hN:Nat.ble args.length N=true){m:Nat}(hm:H.length=m)(h:Wp (cx E M m N g 0) code (a3s 0 args) H (fq E g m results r))(hp:E.prim g args=none:=by rfl)(hz:E.zf g=false:=by rfl):sem E M g args H=some r:=by
 subst hm;obtain⟨e,F',H',h1,h2⟩:=b7w _ h;obtain⟨v,H2⟩:=r;cases e with
 |normal=>obtain⟨vs,h3,h4⟩:=h2;exact c29 hfn hno hN h1 (λ_ h=>by cases h) h3 h4 hp hz
 |ret=>obtain⟨vs,h3,h4⟩:=h2;exact c29 hfn hno hN h1 (λ_ h=>by cases h) h3 h4 hp hz
 |exit id=>exact h2.elim
theorem xa{E:Env}{M:List Fact}{m N:Nat}{g:FuncId}{cur:Nat}{c:Code}{F F1:Frm}{H H1:a04}{log:List LogE}{t:Bool}{Q:a6h}(h:hs E M N c F H F1 H1 log t)(hl:sd c log=true)(k:ct (cx E M m N g cur) c t F1 H1 Q):Wp (cx E M m N g cur) c F H Q:=by
 cases c with
 |region id ops draw=>exact xs (congrArg Prod.fst h) hl k
 |cond c a b=>have h1:opv E F c = .bool t:=d61 (congrArg Prod.fst h);have h2:(F,H,([]:List LogE))=(F1,H1,log):=congrArg Prod.snd h;cases h2;exact xI h1 k
 |_=>exact k.elim
theorem gS:(∀a b:Code,(some a).getD b=a)∧(∀l:List ResultVar,(List.toArray l).toList=l):=⟨λ_ _=>rfl,λ_=>rfl⟩
def AExit.fin:AExit→Bool
 |.exit _=>false
 |_=>true
@[go_sem] theorem f1v:AExit.ret.fin=true:=by rfl
@[go_sem] theorem f1w:AExit.normal.fin=true:=by rfl
theorem fqb{E:Env}{g:FuncId}{m:Nat}{results:List ResultVar}{r:AV×a04}{e:AExit}{F:Frm}{H:a04}(h:(bif e.fin then a0h (a0z E F H results) λvs=>a0j (E.thaw g) m (a2p vs) H else none)=some r):fq E g m results r e F H:=by
 cases ha:a0z E F H results with
 |none=>rw[ha]at h;cases e<;>cases h
 |some vs=>
  rw[ha]at h;cases e with
  |exit i=>cases h
  |_=>exact⟨vs,ha,h⟩
theorem sv{E:Env}{M:List Fact}{g:FuncId}{args:List AV}{H:a04}{r:AV×a04}(f:Func)(h:Wp (cx E M H.length f.ntmps g 0) (f.body.getD .skip) (a3s 0 args) H (fq E g H.length f.results.toList r))(hfn:E.fn g=some ⟨f.body.getD .skip,f.ntmps,f.results.toList⟩:=by kernel_rfl)
 (hno:(M.all λy=>!Nat.beq y.g g)=true:=by rfl)(hN:Nat.ble args.length f.ntmps=true:=by rfl)(hp:E.prim g args=none:=by rfl)(hz:E.zf g=false:=by rfl):sem E M g args H=some r:=e07 hfn (λy hy e=>by
 have:=List.all_eq_true.1 hno y hy;rw[e]at this;simp at this) hN rfl h hp hz
end Go.Ax
/- AxTyp: typed abstract values, taken apart. -/
namespace Go.Ax
section
variable {E:Env}{n:Nat}{t e:TypeId}{avs:List AV}
end
end Go.Ax
/- AxHeap: calls on, and loops over, heaps of a few known blocks: what is reached, renamed and put back, ar rewrite rules. -/
namespace Go.Ax
@[go_sem] theorem d8q(H:a04)(n:Nat)(acc:List Nat):a1t H n [] acc=acc.reverse:=by cases n<;>rfl
theorem c48(H:a04)(n:Nat)(b:Nat)(todo acc:List Nat):a1t H (n+1) (b::todo) acc=bif a0v acc b then a1t H n todo acc else a1t H n (a0k (a01 H b)++todo) (b::acc):=by rfl
@[go_sem] theorem d8r{n:Nat}(hn:(0<n)=True)(H:a04)(b:Nat)(todo acc:List Nat):a1t H n (b::todo) acc=bif a0v acc b then a1t H (n-1) todo acc else a1t H (n-1) (a0k (a01 H b)++todo) (b::acc):=by
 obtain⟨m,rfl⟩:∃m,n=m+1:=⟨n-1,by have:=of_eq_true hn;omega⟩
 exact c48 H m b todo acc
@[go_sem] theorem d1l(x:Nat):a0v [] x=false:=by rfl
@[go_sem] theorem c9j(a:Nat)(r:List Nat)(x:Nat):a0v (a::r) x=bif decide (a=x)then true else a0v r x:=by simp only[a0v,c6n,b5q]
@[go_sem] theorem d8u:a3x []=true:=by rfl
@[go_sem] theorem c10(a:Nat)(r:List Nat):a3x (a::r)=(!(a0v r a)&&a3x r):=by rfl
@[go_sem] theorem e0o(k:Nat)(rows:List (List AV)):a0k (some (.row k rows))=rows.flatMap a0a:=by rfl
@[go_sem] theorem e71(b:Nat):List.idxOf? b []=none:=by rfl
@[go_sem] theorem e4q(a:Nat)(l:List Nat)(b:Nat):List.idxOf? b (a::l)=bif decide (a=b)then some 0 else(List.idxOf? b l).map (·+ 1):=by rw[List.idxOf?_cons,b5q];cases decide (a=b)<;>rfl
@[go_sem] theorem e68(σ:List Nat)(b:Nat):a3w σ b=σ.idxOf? b:=by rfl
@[go_sem] theorem e2t(σ:List Nat)(n j:Nat):a0s σ n j=bif decide (j<σ.length)then σ[j]? else some (n+(j-σ.length)):=by simp only[a0s,c1t]
@[go_sem] theorem d8k(H:a04)(π:Nat→Option Nat):a19 H [] π=[]:=by rfl
@[go_sem] theorem d4q(H:a04)(b:Nat)(σ:List Nat)(π:Nat→Option Nat):a19 H (b::σ) π=(a01 H b).map (a0e π)::a19 H σ π:=by rfl
@[go_sem] theorem d3m(σ:List Nat)(n:Nat)(H1:a04)(b:Nat):a0u σ n H1 b []=[]:=by rfl
def c6b(σ:List Nat)(n:Nat)(H1:a04)(o:Option AObj):Option Nat→Option AObj
 |some j=>(a01 H1 j).map (a0e (a0s σ n))
 |none=>o
@[go_sem] theorem d5h(σ:List Nat)(n:Nat)(H1:a04)(o:Option AObj)(j:Nat):c6b σ n H1 o (some j)=(a01 H1 j).map (a0e (a0s σ n)):=by rfl
@[go_sem] theorem d5i(σ:List Nat)(n:Nat)(H1:a04)(o:Option AObj):c6b σ n H1 o none=o:=by rfl
@[go_sem] theorem d3n(σ:List Nat)(n:Nat)(H1:a04)(b:Nat)(o:Option AObj)(r:a04):a0u σ n H1 b (o::r)=c6b σ n H1 o (σ.idxOf? b)::a0u σ n H1 (b+1) r:=by simp only[a0u];cases σ.idxOf? b<;>rfl
@[go_sem] theorem d8n(π:Nat→Option Nat)(k:Nat)(rows:List (List AV)):a0e π (.row k rows) = .row k (rows.map λr=>r.map (ren π)):=by rfl
/- renaming a value -/
section
variable (π:Nat→Option Nat)
def e42(f:Nat→AV):Option Nat→AV|some b=>f b|none=>.junk
@[go_sem] theorem e0j(f:Nat→AV)(b:Nat):e42 f (some b)=f b:=by rfl
@[go_sem] theorem e64(b i o:Nat):ren π (.ptr b i o)=e42 (λb=>.ptr b i o) (π b):=by simp only[ren];cases π b<;>rfl
@[go_sem] theorem e0h(b i o:Nat)(c:Option Nat):ren π (.slice b i o c)=e42 (λb=>.slice b i o c) (π b):=by simp only[ren];cases π b<;>rfl
@[go_sem] theorem e65(b:Nat):ren π (.map b)=e42 (λb=>.map b) (π b):=by simp only[ren];cases π b<;>rfl
@[go_sem] theorem e66(k:IntKind)(n:Int):ren π (.int k n) = .int k n:=by rfl
@[go_sem] theorem e40(b:Bool):ren π (.bool b) = .bool b:=by rfl
@[go_sem] theorem e63(s:List UInt8):ren π (.str s) = .str s:=by rfl
@[go_sem] theorem d8m(r:List (List AV))(c:Option Nat):ren π (.islice r c) = .islice r c:=by rfl
@[go_sem] theorem d3j:ren π .nilslice = .nilslice:=by rfl
@[go_sem] theorem e3y:ren π .junk = .junk:=by rfl
@[go_sem] theorem e67(l:List AV):ren π (.agg l) = .agg (l.map (ren π)):=by simp only[ren,a63]
@[go_sem] theorem e0g(l:List AV):ren π (.tuple l) = .tuple (l.map (ren π)):=by simp only[ren,a63]
@[go_sem] theorem e3z(f:Fn)(a b:List AV):ren π (.func f a b) = .func f (a.map (ren π)) (b.map (ren π)):=by simp only[ren,a63]
@[go_sem] theorem e41:b7q π []=[]:=by rfl
@[go_sem] theorem c66(s:Nat)(v:AV)(r:Frm):b7q π ((s,v)::r)=(s,ren π v)::b7q π r:=by rfl
end
@[go_sem] theorem d6g(m:Nat)(σ:List Nat)(b:Nat):b7r m σ b=bif decide (b<m)then some b else(σ.idxOf? b).map (m + ·):=by simp only[b7r,c1t]
theorem a03{m:Nat}{keep:List Nat}{F:Frm}{H:a04}:gcD m keep F H=bif a3x (b05 m (a1l keep F) H)&&(b05 m (a1l keep F) H).all (λb=>decide (m≤b))&&decide (m≤H.length)then
 some (b7q (b7r m (b05 m (a1l keep F) H)) (a1l keep F),gcH m (b05 m (a1l keep F) H) H)else none:=by
 have e:(λb=>Nat.ble m b)=λb=>decide (m≤b):=funext λb=>c8n m b;simp only[gcD,e,c8n]
theorem a00(m:Nat)(F:Frm)(H:a04):b05 m F H=(a1t H 1000000 ((H.take m).flatMap a0k++a0a (F.map (·.2))) []).filter λb=>decide (m≤b):=by have e:(λb=>Nat.ble m b)=λb=>decide (m≤b):=funext λb=>c8n m b;simp only[b05,a4d,e]
@[go_sem] theorem d3x(m:Nat)(σ:List Nat)(H:a04):gcH m σ H=(H.take m).map (Option.map (a0e (b7r m σ)))++a19 H σ (b7r m σ):=by rfl
@[go_sem] theorem e7f{α:Type}(p:α→Bool)(a:α)(l:List α):(a::l).filter p=bif p a then a::l.filter p else l.filter p:=by rw[List.filter_cons];cases p a<;>rfl
attribute [go_sem] List.reverse_cons List.reverse_nil List.filter_nil List.flatMap_cons List.flatMap_nil
theorem a18(run:List AV→a04→Option (AV×a04))(args:List AV)(H:a04){σ:List Nat}(hσ:a1t H 1000000 (a0a args) []=σ)(hn:a3x σ=true)(hl:(σ.all λb=>decide (b<H.length))=true)
 {args':List AV}(ha:args.map (ren (a3w σ))=args'){H0:a04}(hH:a19 H σ (a3w σ)=H0){v:AV}{H1:a04}(hr:run args' H0=some (v,H1)) :
 a1i run args H=some (ren (a0s σ H.length) v,a0u σ H.length H1 0 H++(H1.drop σ.length).map (Option.map (a0e (a0s σ H.length))),σ):=by
 have e:(λb=>Nat.blt b H.length)=λb=>decide (b<H.length):=funext λb=>c1t b H.length;unfold a1i;simp only[a4d,hσ,hn,e,hl,Bool.and_self,cond_true,ha,hH,hr]
theorem a96{E:Env}{draw:Bool}{call:CallF}{g:FuncId}{fs cs ar args:List AV}{H:a04}(hx:E.ext g=false)(hf:(E.fn g).isSome=true)(he:fs++ar++cs=args){v:AV}{H':a04}{σ:List Nat}
 (h:a1i (call g) args H=some (v,H',σ))(hl:H'.length=H.length):a0d E draw call (.func (.func g) fs cs) ar H=some (v,H',σ):=by
 have hb:Nat.ble H.length H.length=true:=by rw[Nat.ble_eq];exact Nat.le_refl _
 simp only[a0d,hx,hf,he,cond_true,cond_false,h,hl,hb,Bool.not_true,Bool.and_false]
theorem b9u{E:Env}{call:CallF}{g:FuncId}{fs cs ar args:List AV}{H:a04}(hx:E.ext g=false)(hf:(E.fn g).isSome=true)(he:fs++ar++cs=args){v:AV}{H':a04}{σ:List Nat}
 (h:a1i (call g) args H=some (v,H',σ)):a0d E false call (.func (.func g) fs cs) ar H=some (v,H',σ):=by
 simp only[a0d,hx,hf,he,cond_true,cond_false,h,Bool.false_and]
/- freezing -/
@[go_sem] theorem d5r{α β:Type}(a:α)(f:α→β)(d:β):d3r (some a) f d=f a:=by rfl
@[go_sem] theorem b9f{m:Nat}{v:AV}{H:a04}:a0j false m v H=d3r (a23 m true (a3v (a01 H) m 12) v) (λv'=>some (v',(H.take m).map (Option.map (a0e (a13 m))))) (some (v,H)):=by simp only[a0j,cond_false];cases a23 m true (a3v (a01 H) m 12) v<;>rfl
section
variable {m:Nat}{top:Bool}{d:AV→Option AV}{h:FHeap}{n:Nat}
@[go_sem] theorem e78(k:IntKind)(i:Int):a23 m top d (.int k i)=some (.int k i):=by rfl
@[go_sem] theorem e4u(b:Bool):a23 m top d (.bool b)=some (.bool b):=by rfl
@[go_sem] theorem d3z:a23 m top d .nilslice=some .nilslice:=by rfl
@[go_sem] theorem e9v(c:Option (Option Nat))(rows:List (List AV)):a23 m top d (sl c rows)=some (sl c rows):=a16 m top d _ (a64 c rows)
@[go_sem] theorem e76(x:BitVec 64):a23 m top d (u64 x)=some (u64 x):=by rfl
@[go_sem] theorem e79(l:List AV):a23 m top d (.agg l)=a0h (a4z m top d l) λl=>some (.agg l):=by simp only[a23];cases a4z m top d l<;>rfl
@[go_sem] theorem e1y(l:List AV):a23 m top d (.tuple l)=a0h (a4z m top d l) λl=>some (.tuple l):=by simp only[a23];cases a4z m top d l<;>rfl
@[go_sem] theorem e4t(f:Fn)(a b:List AV):a23 m top d (.func f a b)=a0h (a4z m top d a) λa=>a0h (a4z m top d b) λb=>some (.func f a b):=by simp only[a23];cases a4z m top d a<;>cases a4z m top d b<;>rfl
@[go_sem] theorem c36:a4z m top d []=some []:=by rfl
@[go_sem] theorem b9a(v:AV)(l:List AV):a4z m top d (v::l)=a0h (a23 m top d v) λv=>a0h (a4z m top d l) λl=>some (v::l):=by simp only[a4z];cases a23 m top d v<;>cases a4z m top d l<;>rfl
@[go_sem] theorem a8w(b o l:Nat)(c:Option Nat):a23 m top d (.slice b o l c)=bif decide (b<m)then(bif top then some (.slice b o l c)else none)else d (.slice b o l c):=by simp only[a23,d12,c1t]
@[go_sem] theorem e77(b o l:Nat):a23 m top d (.ptr b o l)=bif decide (b<m)then(bif top then some (.ptr b o l)else none)else d (.ptr b o l):=by simp only[a23,d12,c1t]
@[go_sem] theorem d6j(b:Nat):a23 m top d (.map b)=bif decide (b<m)then(bif top then some (.map b)else none)else d (.map b):=by simp only[a23,d12,c1t]
@[go_sem] theorem b07(hn:(0<n)=True)(b o l:Nat)(c:Option Nat):a3v h m n (.slice b o l c)=a0h (a88 (h b)) λkr=>bif decide (o+l≤kr.2.length)then a0h (b39 m (a3v h m (n-1)) ((kr.2.drop o).take l)) λrs=>some (.islice rs c)else none:=by
 obtain⟨n,rfl⟩:∃k,n=k+1:=⟨n-1,by have:=of_eq_true hn;omega⟩
 simp only[a3v,Nat.add_sub_cancel];cases hb:h b with
 |none=>simp only[hb];rfl
 |some ob=>cases ob<;>simp only[hb,a88,a0h,c8n];rename_i kk rows;cases b39 m (a3v h m n) ((rows.drop o).take l)<;>rfl
@[go_sem] theorem e4x(hn:(0<n)=True)(b i o:Nat):a3v h m n (.ptr b i o)=a0h (a88 (h b)) λkr=>a0h (kr.2[i]?) λr=>a0h (a4z m false (a3v h m (n-1)) (r.drop o)) λcs=>some (.iptr cs):=by
 obtain⟨n,rfl⟩:∃k,n=k+1:=⟨n-1,by have:=of_eq_true hn;omega⟩
 simp only[a3v,Nat.add_sub_cancel];cases hb:h b with
 |none=>simp only[hb];rfl
 |some ob=>
  cases ob<;>simp only[hb,a88,a0h];rename_i kk rows;cases rows[i]? with
  |none=>rfl
  |some r=>simp only;cases a4z m false (a3v h m n) (r.drop o)<;>rfl
theorem d11:b39 m d []=some []:=by rfl
theorem b38(r:List AV)(rs:List (List AV)):b39 m d (r::rs)=a0h (a4z m false d r) λr=>a0h (b39 m d rs) λrs=>some (r::rs):=by simp only[b39];cases a4z m false d r<;>cases b39 m d rs<;>rfl
attribute [go_sem] d11 b38
end
/-! ### append -/
section
variable {E:Env}{h:FHeap}{n:Nat}
@[go_sem] theorem d7j(k b o l:Nat)(c:Option Nat):a20 h k (.slice b o l c)=a0h (a88 (h b)) λkr=>bif decide (kr.1=k)&&decide (o+l≤kr.2.length)then some ((kr.2.drop o).take l)else none:=by
 simp only[a20];cases hb:h b with
 |none=>simp only[hb];rfl
 |some ob=>cases ob<;>simp only[hb,a88,a0h,b5q,c8n]
@[go_sem] theorem c9l(k:Nat):a20 h k .nilslice=some []:=by rfl
@[go_sem] theorem b0z(k:Nat)(rows:List (List AV))(c:Option Nat):a20 h k (.islice rows c)=bif rows.all (λr=>decide (r.length=k))then some rows else none:=by simp only[a20,b5q]
@[go_sem] theorem e56(k:Nat)(rows:List (List AV))(c:Option (Option Nat)):a20 h k (sl c rows)=bif rows.all (λr=>decide (r.length=k))then some rows else none:=by
 cases c with
 |some c=>rw[c0o];exact b0z k rows c
 |none=>cases rows with
  |nil=>rfl
  |cons a r=>exact b0z k _ none
def apT(E:Env)(st xt:TypeId):Option TypeId:=match E.und st,E.und xt with
 |some (.slice e),some dx=>bif a2a dx || !(E.zero e).isSome || !(Nat.blt 0 (E.sz e))then none else some e
 |_,_=>none
def apS(E:Env)(h:FHeap)(n:Nat)(elem:TypeId)(xs:List (List AV)):AV→Option (AV×Eff)
 |.nilslice=>match xs with
  | []=>some (.nilslice,.none)
  |y::ys=>bif a26 E elem (y::ys).length then some (.slice n 0 (y::ys).length none,.new (.row (E.sz elem) (y::ys)))else none
 |.islice rows cap=>bif rows.all (λr=>r.length==E.sz elem)then match xs with
  | []=>some (.islice rows cap,.none)
  |y::ys=>match cap with
   |some c=>bif Nat.blt c (rows.length+(y::ys).length)&&a26 E elem (rows.length+(y::ys).length)then
    some (.slice n 0 (rows.length+(y::ys).length) none,.new (.row (E.sz elem) (rows++(y::ys))))else none
   |none=>none
  else none
 |.slice b off len cap=>match h b with
  |some (.row kk rows)=>bif kk==E.sz elem&&Nat.ble (off+len) rows.length then
   match cap with
   |none=>bif a26 E elem (len+xs.length)&&xs.all (λr=>r.all AV.storable)then
    some (.slice n 0 (len+xs.length) none,.kill b (.row (E.sz elem) (bif Nat.beq (off+len) rows.length then rows.drop off++xs else(rows.drop off).take len++xs)))else none
   |some c=>bif Nat.ble (len+xs.length) c then
    bif Nat.ble (off+len+xs.length) rows.length&&xs.all (λr=>r.all AV.storable)then
     some (.slice b off (len+xs.length) (some c),.set b (.row (E.sz elem) (rows.take (off+len)++xs++rows.drop (off+len+xs.length))))else none
    else bif a26 E elem (len+xs.length)then
     some (.slice n 0 (len+xs.length) none,.new (.row (E.sz elem) ((rows.drop off).take len++xs)))else none
   else none
  |_=>none
 |_=>none
@[go_sem] theorem e39(st xt:TypeId)(s x:AV):a3u E h n st xt s x=a0h (apT E st xt) λe=>a0h (a20 h (E.sz e) x) λxs=>apS E h n e xs s:=by
 unfold a3u apT;cases E.und st with
 |none=>rfl
 |some d=>cases E.und xt with
  |none=>cases d<;>rfl
  |some dx=>
   cases d<;>try rfl
   rename_i e;simp only;cases(a2a dx || !(E.zero e).isSome || !(Nat.blt 0 (E.sz e)))with
   |true=>rfl
   |false=>
    simp only[cond_false,a0h];cases a20 h (E.sz e) x with
    |none=>rfl
    |some xs=>cases s<;>rfl
@[go_sem] theorem e87(e:TypeId)(y:List AV)(ys:List (List AV)):apS E h n e (y::ys) .nilslice=bif a26 E e (y::ys).length then some (.slice n 0 (y::ys).length none,.new (.row (E.sz e) (y::ys)))else none:=by rfl
@[go_sem] theorem e5a(e:TypeId):apS E h n e [] .nilslice=some (.nilslice,.none):=by rfl
@[go_sem] theorem e5b(e:TypeId)(xs:List (List AV))(b o l:Nat):apS E h n e xs (.slice b o l none)=a0h (a88 (h b)) λkr=>
 bif decide (kr.1=E.sz e)then(bif decide (o+l=kr.2.length)then(bif a26 E e (l+xs.length)&&xs.all (λr=>r.all AV.storable)then some (.slice n 0 (l+xs.length) none,.kill b (.row (E.sz e) (kr.2.drop o++xs)))else none)
  else(bif decide (o+l≤kr.2.length)&&a26 E e (l+xs.length)&&xs.all (λr=>r.all AV.storable)then some (.slice n 0 (l+xs.length) none,.kill b (.row (E.sz e) ((kr.2.drop o).take l++xs)))else none))else none:=by
 simp only[apS];cases hb:h b with
 |none=>simp only[hb];rfl
 |some ob=>
  cases ob<;>simp only[hb,a88,a0h,b5q,c8n];rename_i kk rows;have e1:Nat.beq (o+l) rows.length=decide (o+l=rows.length):=by rw[c6n,b5q]
  rw[e1];by_cases h1:o+l=rows.length
  ·rw[decide_eq_true h1,decide_eq_true (by omega:o+l≤rows.length)];cases decide (kk=E.sz e)<;>rfl
  ·rw[decide_eq_false h1];cases decide (kk=E.sz e)<;>cases decide (o+l≤rows.length)<;>rfl
@[go_sem] theorem e35(e:TypeId)(xs:List (List AV))(b o l c:Nat):apS E h n e xs (.slice b o l (some c))=a0h (a88 (h b)) λkr=>
 bif decide (kr.1=E.sz e)&&decide (o+l≤kr.2.length)then(bif decide (l+xs.length≤c)then
  (bif decide (o+l+xs.length≤kr.2.length)&&xs.all (λr=>r.all AV.storable)then some (.slice b o (l+xs.length) (some c),.set b (.row (E.sz e) (kr.2.take (o+l)++xs++kr.2.drop (o+l+xs.length))))else none)
  else(bif a26 E e (l+xs.length)then some (.slice n 0 (l+xs.length) none,.new (.row (E.sz e) ((kr.2.drop o).take l++xs)))else none))else none:=by
 simp only[apS];cases hb:h b with
 |none=>simp only[hb];rfl
 |some ob=>cases ob<;>simp only[hb,a88,a0h,b5q,c8n]
theorem a6u{e:TypeId}{k:Nat}(hk:k≤1000000000)(hb:E.bytes e≤1000):a26 E e k=true:=by
 unfold a26;rw[decide_eq_true (by omega),Bool.true_and,decide_eq_true_eq]
 calc E.bytes e*(2*k+192)≤1000*(2*1000000000+192):=Nat.mul_le_mul hb (by omega)
  _≤281474976710656:=by decide
end
/- The length of a block's rows, by hand. -/
@[go_sem] theorem e8n(a:Nat):(a:Int).tmod 2=((a%2:Nat):Int):=by rfl
@[go_sem] theorem e8q(a:Nat):(a:Int).tdiv 2=((a/2:Nat):Int):=by rfl
@[go_sem] theorem e8m(a:Nat):(a:Int).tmod 3=((a%3:Nat):Int):=by rfl
@[go_sem] theorem e8l(a:Nat):(a:Int).tmod 4=((a%4:Nat):Int):=by rfl
@[go_sem] theorem e8p(a:Nat):(a:Int).tdiv 4=((a/4:Nat):Int):=by rfl
@[go_sem] theorem e8o(a:Nat):(a:Int).tdiv 8=((a/8:Nat):Int):=by rfl
@[go_sem] theorem e8k(a:Nat):(a:Int).tmod 9=((a%9:Nat):Int):=by rfl
theorem wI{n:Nat}(h:n<9223372036854775808):IntKind.i64.wrap (n:Int)=n:=w64 (by omega) (by omega)
theorem wB{n:Nat}(h:n<256):IntKind.u8.wrap (n:Int)=n:=IntWalk.u8_in _ ⟨by omega,by omega⟩
theorem wI1{n:Nat}(h:n<9223372036854775807):IntKind.i64.wrap ((n:Int)+1)=((n+1:Nat):Int):=by rw[w64 (by omega) (by omega)];rfl
theorem c4a(m b:Nat):a13 m b=bif decide (b<m)then some b else none:=by simp only[a13,c1t]
attribute [go_sem] c4a
/-! ### bytes to a string -/
section
variable {E:Env}{h:FHeap}{s d:TypeId}
end
attribute [go_sem] List.length_replicate List.map_replicate List.length_append List.flatMap_append List.map_append
/-! ### calls that only read -/
def FlatO(o:Option AObj):Prop:=∀π,o.map (a0e π)=o
theorem FlatO.row{k:Nat}{rows:List (List AV)}(h:FlatR rows):FlatO (some (.row k rows)):=λπ=>by simp only[Option.map_some,a0e,a02 π h]
theorem c9f(f:Nat→Option AObj)(σ:List Nat)(j:Nat):a01 (σ.map f) j=(σ[j]?).bind f:=by simp only[a01,List.getElem?_map];cases σ[j]?<;>simp
theorem b0p{σ:List Nat}{n:Nat}{H:a04}(hf:∀b∈σ,FlatO (a01 H b)):∀(b:Nat) (H2:a04),(∀i,H2[i]?=H[b+i]?)→a0u σ n (σ.map (a01 H)) b H2=H2
 |_,[],_=>rfl
 |b,o::r,hh=>by
  have ih:=b0p hf (n:=n) (b+1) r (λi=>by
   have:=hh (i+1);rw[List.getElem?_cons_succ]at this;rw[this]
   congr 1
   omega)
  simp only[a0u,ih]
  congr 1
  cases hx:σ.idxOf? b with
  |none=>rfl
  |some j=>simp only;have hj:=a1h hx;have hm:b∈σ:=List.mem_of_getElem? hj;rw[c9f,hj];simp only[Option.bind_some];rw[hf b hm _];have h0:=hh 0;simp only[List.getElem?_cons_zero,Nat.add_zero]at h0;simp[a01,←h0]
theorem a3f{E:Env}{draw:Bool}{call:CallF}{g:FuncId}{fs cs ar args:List AV}{H:a04}{v:AV}(σ:List Nat)(hx:E.ext g=false)(hf:(E.fn g).isSome=true)(he:fs++ar++cs=args)
 (hσ:a1t H 1000000 (a0a args) []=σ)(hn:a3x σ=true)(hl:(σ.all λb=>decide (b<H.length))=true)(hfl:∀b∈σ,FlatO (a01 H b))
 {args':List AV}(ha:args.map (ren (a3w σ))=args'){H0:a04}(hH:σ.map (a01 H)=H0)(hr:call g args' H0=some (v,H0))(hv:refs v=[]) :
 a0d E draw call (.func (.func g) fs cs) ar H=some (v,H,σ):=by
 have hs:a19 H σ (a3w σ)=H0:=by rw[←hH];unfold a19;exact List.map_congr_left λb hb=>hfl b hb _
 have hc:=a18 (call g) args H hσ hn hl ha hs hr;have e1:ren (a0s σ H.length) v=v:=a0f _ v hv;have e2:a0u σ H.length H0 0 H=H:=by rw[←hH];exact b0p hfl 0 H (λi=>by rw[Nat.zero_add])
 have e3:H0.drop σ.length=[]:=by rw[←hH];simp
 rw[e1,e2,e3,List.map_nil,List.append_nil]at hc;exact a96 hx hf he hc rfl
end Go.Ax
/- AxMore: facts that all say 'true'; loops over any states; what a heap's values a1t. -/
namespace Go.Ax
theorem b8a{E:Env}{M:List Fact}(hT:∀y∈M,y.v = .bool true){x:Fact}(hx:x∈M):sem E M x.g x.args []=some (.bool true,[]):=by have h:sem E M x.g x.args []=some (x.v,[]):=a6r.2 (.fact x hx (λy hy _ _=>by rw[hT y hy,hT x hx]));rw[hT x hx]at h;exact h
/-! ### what is reached -/
theorem b80{f:Nat→Nat}:∀{L:List Nat} {b:Nat},b∈L→(L.map f).sum=f b+((L.erase b).map f).sum
 | [],b,h=>by simp at h
 |a::L,b,h=>by
  by_cases hab:a=b
  ·subst hab;simp
  ·have hb:b∈L:=by simpa[Ne.symm hab]using h
   rw[List.erase_cons_tail (by simpa using hab)];simp only[List.map_cons,List.sum_cons,b80 hb];omega
structure Reached(H:a04)(init σ:List Nat):Prop where
 nodup:σ.Nodup
 start:∀b∈init,b∈σ
 closed:∀b∈σ,∀c∈a0k (a01 H b),c∈σ
 least:∀T:Nat→Prop,(∀b∈init,T b)→(∀b,T b→∀c∈a0k (a01 H b),T c)→∀b∈σ,T b
theorem b6j(H:a04):∀(n:Nat) (todo acc L:List Nat),acc.Nodup→(∀b∈acc,∀c∈a0k (a01 H b),c∈acc∨c∈todo)→(∀b∈todo,b∈acc∨b∈L)→(∀b∈L,∀c∈a0k (a01 H b),c∈acc∨c∈L)→
 todo.length+(L.map λb=>(a0k (a01 H b)).length).sum<n→
 (a1t H n todo acc).Nodup∧(∀b∈acc,b∈a1t H n todo acc)∧(∀b∈todo,b∈a1t H n todo acc)∧(∀b∈a1t H n todo acc,∀c∈a0k (a01 H b),c∈a1t H n todo acc)∧
 ∀T:Nat→Prop,(∀b∈acc,T b)→(∀b∈todo,T b)→(∀b,T b→∀c∈a0k (a01 H b),T c)→∀b∈a1t H n todo acc,T b
 |0,todo,acc,L,_,_,_,_,hn=>by omega
 |n+1,[],acc,L,h1,h2,h3,h4,hn=>by
  unfold a1t;refine⟨List.pairwise_reverse.2 (h1.imp λh=>Ne.symm h),by simp,by simp,?_,?_⟩
  ·intro b hb c hc;rcases h2 b (by simpa using hb) c hc with h|h
   ·simpa using h
   ·simp at h
  ·intro T t1 t2 t3 b hb;exact t1 b (by simpa using hb)
 |n+1,b::todo,acc,L,h1,h2,h3,h4,hn=>by
  unfold a1t;cases hc:a0v acc b with
  |true=>
   have hb:b∈acc:=a1x.1 hc;simp only[cond_true];obtain⟨r1,r2,r3,r4,r5⟩:=b6j H n todo acc L h1 (λx hx c hcc=>by
    rcases h2 x hx c hcc with h|h
    ·exact .inl h
    ·simp only[List.mem_cons]at h;rcases h with rfl|h
     ·exact .inl hb
     ·exact .inr h) (λx hx=>h3 x (by simp[hx])) h4 (by simp only[List.length_cons]at hn;omega)
   refine⟨r1,r2,?_,r4,?_⟩
   ·intro x hx;simp only[List.mem_cons]at hx;rcases hx with rfl|hx
    ·exact r2 _ hb
    ·exact r3 x hx
   ·intro T t1 t2 t3;exact r5 T t1 (λx hx=>t2 x (by simp[hx])) t3
  |false=>
   have hb:b∉acc:=λh=>by rw[a1x.2 h]at hc;cases hc
   simp only[cond_false];have hbL:b∈L:=(h3 b (by simp)).resolve_left hb;have hs:=b80 (f:=λb=>(a0k (a01 H b)).length) hbL;obtain⟨r1,r2,r3,r4,r5⟩:=b6j H n (a0k (a01 H b)++todo) (b::acc) (L.erase b) (List.nodup_cons.2 ⟨hb,h1⟩) (λx hx c hcc=>by
    simp only[List.mem_cons]at hx⊢;rcases hx with rfl|hx
    ·exact .inr (by simp[hcc])
    ·rcases h2 x hx c hcc with h|h
     ·exact .inl (.inr h)
     ·simp only[List.mem_cons]at h;rcases h with rfl|h
      ·exact .inl (.inl rfl)
      ·exact .inr (by simp[h])) (λx hx=>by
    have hx':x∈acc∨x∈L:=by
     rw[List.mem_append]at hx;rcases hx with hx|hx
     ·exact h4 b hbL x hx
     ·exact h3 x (by simp[hx])
    by_cases hxb:x=b
    ·exact .inl (by simp[hxb])
    ·rcases hx' with h|h
     ·exact .inl (by simp[h])
     ·exact .inr ((List.mem_erase_of_ne hxb).2 h)) (λx hx c hcc=>by
    have:=h4 x (List.mem_of_mem_erase hx) c hcc;by_cases hxb:c=b
    ·exact .inl (by simp[hxb])
    ·rcases this with h|h
     ·exact .inl (by simp[h])
     ·exact .inr ((List.mem_erase_of_ne hxb).2 h)) (by
    simp only[List.length_cons]at hn;rw[hs]at hn;simp only[List.length_append];omega)
   refine⟨r1,λx hx=>r2 x (by simp[hx]),?_,r4,?_⟩
   ·intro x hx;simp only[List.mem_cons]at hx;rcases hx with rfl|hx
    ·exact r2 _ (by simp)
    ·exact r3 x (by simp[hx])
   ·intro T t1 t2 t3;refine r5 T ?_ ?_ t3
    ·intro x hx;simp only[List.mem_cons]at hx;rcases hx with rfl|hx
     ·exact t2 _ (by simp)
     ·exact t1 x hx
    ·intro x hx;rw[List.mem_append]at hx;rcases hx with hx|hx
     ·exact t3 b (t2 b (by simp)) x hx
     ·exact t2 x (by simp[hx])
theorem b4y{H:a04}{init:List Nat}(S:List Nat)(h1:∀b∈init,b∈S)(h2:∀b∈S,∀c∈a0k (a01 H b),c∈S)
 (hn:init.length+(S.map λb=>(a0k (a01 H b)).length).sum<1000000):Reached H init (a1t H 1000000 init []):=by
 obtain⟨r1,_,r3,r4,r5⟩:=b6j H 1000000 init [] S List.nodup_nil (λb hb=>by simp at hb) (λb hb=>.inr (h1 b hb)) (λb hb c hc=>.inr (h2 b hb c hc)) hn;exact⟨r1,r3,r4,λT t1 t2=>r5 T (λb hb=>by simp at hb) t1 t2⟩
theorem a6z:∀{l:List Nat},l.Nodup→a3x l=true
 | [],_=>rfl
 |a::l,h=>by
  rw[List.nodup_cons]at h;have hc:a0v l a=false:=by
   cases hc:a0v l a with
   |false=>rfl
   |true=>exact absurd (a1x.1 hc) h.1
  rw[c10,hc,a6z h.2];rfl
structure Gc(m:Nat)(F:Frm)(H:a04)(R:Nat→Prop)(π:Nat→Option Nat)(H1:a04):Prop where
 low:∀b,b<m→π b=some b
 inj:∀a b c,π a=some c→π b=some c→a=b
 refs:∀b∈a0a (F.map (·.2)),R b
 lows:∀b,b<m→∀c∈a0k (a01 H b),R c
 closed:∀b,R b→∀c∈a0k (a01 H b),R c
 least:∀T:Nat→Prop,(∀b∈a0a (F.map (·.2)),T b)→(∀b,b<m→∀c∈a0k (a01 H b),T c)→(∀b,T b→∀c∈a0k (a01 H b),T c)→∀b,R b→T b
 here:∀b,R b→∃c,π b=some c
 heap:∀b c,π b=some c→a01 H1 c=(a01 H b).map (a0e π)
 len:∀T:List Nat,(∀b,R b→m≤b→b∈T)→H1.length≤m+T.length
theorem b6w{m:Nat}{H:a04}{c:Nat}:c∈(H.take m).flatMap a0k↔∃b,b<m∧c∈a0k (a01 H b):=by
 simp only[List.mem_flatMap];constructor
 ·rintro⟨o,ho,hc⟩
  obtain⟨b,hb⟩:=List.mem_iff_getElem?.1 ho;rw[List.getElem?_take]at hb;split at hb
  case isFalse=>cases hb
  rename_i hlt;refine⟨b,hlt,?_⟩;simp only[a01,hb,Option.join_some];exact hc
 ·rintro⟨b,hlt,hc⟩
  cases hb:H[b]? with
  |none=>simp[a01,hb,a0k]at hc
  |some o=>refine⟨o,List.mem_iff_getElem?.2 ⟨b,by rw[List.getElem?_take,if_pos hlt,hb]⟩,?_⟩;simpa[a01,hb]using hc
theorem c77:∀{l T:List Nat},l.Nodup→(∀b∈l,b∈T)→l.length≤T.length
 | [],_,_,_=>by simp
 |a::l,T,hnd,hsub=>by rw[List.nodup_cons]at hnd;have ha:a∈T:=hsub a (by simp);have:=c77 (l:=l) (T:=T.erase a) hnd.2 (λb hb=>(List.mem_erase_of_ne (λe=>hnd.1 (by rw[←e];exact hb))).2 (hsub b (by simp[hb])));rw[List.length_erase_of_mem ha]at this;have:0<T.length:=List.length_pos_of_mem ha;simp only[List.length_cons];omega
theorem b99{m:Nat}{keep:List Nat}{F:Frm}{H:a04}(hm:m≤H.length)(S:List Nat)(h1:∀b∈a0a ((a1l keep F).map (·.2)),b∈S)(h2:∀b,b<m→∀c∈a0k (a01 H b),c∈S)(h3:∀b∈S,∀c∈a0k (a01 H b),c∈S)
 (hn:((H.take m).flatMap a0k).length+(a0a ((a1l keep F).map (·.2))).length+(S.map λb=>(a0k (a01 H b)).length).sum<1000000) :
 ∃(R:Nat→Prop) (π:Nat→Option Nat) (H1:a04),gcD m keep F H=some (b7q π (a1l keep F),H1)∧Gc m (a1l keep F) H R π H1∧m≤H1.length:=by
 have hr:=b4y (H:=H) (init:=(H.take m).flatMap a0k++a0a ((a1l keep F).map (·.2))) S (λb hb=>by
  rw[List.mem_append]at hb;rcases hb with hb|hb
  ·obtain⟨a,ha,hc⟩:=b6w.1 hb;exact h2 a ha b hc
  ·exact h1 b hb) h3 (by rw[List.length_append];exact hn)
 generalize hρ:a1t H 1000000 ((H.take m).flatMap a0k++a0a ((a1l keep F).map (·.2))) []=ρ at hr;have hσ:b05 m (a1l keep F) H=ρ.filter λb=>decide (m≤b):=by rw[a00,hρ]
 have hnd:(ρ.filter λb=>decide (m≤b)).Nodup:=hr.nodup.filter _;have hmem:∀b,b∈(ρ.filter λb=>decide (m≤b))↔b∈ρ∧m≤b:=λb=>by rw[List.mem_filter];simp
 have hml:(H.take m).length=m:=by simp;omega
 have hlen:(gcH m (ρ.filter λb=>decide (m≤b)) H).length=m+(ρ.filter λb=>decide (m≤b)).length:=by rw[d3x];simp[a19];omega
 refine⟨(·∈ρ),b7r m (ρ.filter λb=>decide (m≤b)),gcH m (ρ.filter λb=>decide (m≤b)) H,?_,?_,by rw[hlen];omega⟩
 ·rw[a03,hσ,a6z hnd,decide_eq_true hm];have:(ρ.filter λb=>decide (m≤b)).all (λb=>decide (m≤b))=true:=by
   rw[List.all_eq_true];intro b hb;simpa using((hmem b).1 hb).2
  rw[this];rfl
 ·have hπ:∀b,b7r m (ρ.filter λb=>decide (m≤b)) b=if b<m then some b else((ρ.filter λb=>decide (m≤b)).idxOf? b).map (m + ·):=by
   intro b;rw[d6g];by_cases h:b<m<;>simp[h]
  refine⟨λb hb=>by rw[hπ,if_pos hb],?_,λb hb=>hr.start b (by simp[hb]),λb hb c hc=>hr.start c (by rw[List.mem_append];exact .inl (b6w.2 ⟨b,hb,hc⟩)),λb hb c hc=>hr.closed b hb c hc,?_,?_,?_,?_⟩
  ·intro a b c ha hb;rw[hπ]at ha hb;split at ha<;>split at hb
   ·cases ha;cases hb;rfl
   ·cases ha;obtain⟨j,hj,e⟩:=a08 hb;omega
   ·cases hb;obtain⟨j,hj,e⟩:=a08 ha;omega
   ·obtain⟨i,hi,e1⟩:=a08 ha;obtain⟨j,hj,e2⟩:=a08 hb;have g1:=a1h hi;have g2:=a1h hj;obtain rfl:i=j:=by omega
    rw[g1]at g2;exact z9o g2
  ·intro T t1 t2 t3 b hb;refine hr.least T (λx hx=>?_) t3 b hb;rw[List.mem_append]at hx;rcases hx with hx|hx
   ·obtain⟨a,ha,hc⟩:=b6w.1 hx;exact t2 a ha x hc
   ·exact t1 x hx
  ·intro b hb;rw[hπ];split
   ·exact⟨_,rfl⟩
   ·rename_i h;have hbf:=(hmem b).2 ⟨hb,by omega⟩;obtain⟨j,hj⟩:=List.mem_iff_getElem?.1 hbf;rw[a3c hnd hj];exact⟨_,rfl⟩
  ·intro b c hbc;have hbc':=hbc;rw[hπ]at hbc';rw[d3x];split at hbc'
   ·rename_i h;cases hbc';simp only[a01];rw[List.getElem?_append_left (by simp;omega),List.getElem?_map,List.getElem?_take,if_pos h];cases H[b]? with
    |none=>rfl
    |some o=>rfl
   ·rename_i h;obtain⟨j,hj,rfl⟩:=a08 hbc';have hg:=a1h hj;simp only[a01];rw[List.getElem?_append_right (by simp only[List.length_map,hml];omega)];simp only[List.length_map,hml,Nat.add_sub_cancel_left,a19,List.getElem?_map,hg,Option.map_some,Option.join_some];rfl
  ·intro T hT;rw[hlen];have:(ρ.filter λb=>decide (m≤b)).length≤T.length:=by
    have hsub:∀b∈(ρ.filter λb=>decide (m≤b)),b∈T:=λb hb=>hT b ((hmem b).1 hb).1 ((hmem b).1 hb).2;exact c77 hnd hsub
   omega
end Go.Ax
/- AxGrow: grown slices; calls that read one block. -/
namespace Go.Ax
def grV(b:Nat):List (List AV)→AV|[]=>.nilslice|_::rs=>.slice b 0 (rs.length+1) none
def grH(k:Nat):List (List AV)→a04|[]=>[]|r::rs=>[some (.row k (r::rs))]
theorem a1u(b:Nat):grV b [] = .nilslice:=by rfl
theorem a2q(k:Nat):grH k []=[]:=by rfl
theorem a0r(b:Nat)(r:List AV)(rs:List (List AV)):grV b (r::rs) = .slice b 0 (rs.length+1) none:=by rfl
theorem a0y(k:Nat)(r:List AV)(rs:List (List AV)):grH k (r::rs)=[some (.row k (r::rs))]:=by rfl
theorem d10(b:Nat)(l:List (List AV))(x:List AV):grV b (l++[x]) = .slice b 0 (l.length+1) none:=by cases l<;>simp[grV]
theorem b8f{H:a04}{b:Nat}(hr:a0k (a01 H b)=[]):a1t H 1000000 [b] []=[b]:=by
 have e1:∀n,a1t H (n+2) [b] []=[b]:=by intro n;unfold a1t;simp only[a0v,cond_false,hr,List.append_nil];unfold a1t;rfl
 exact e1 999998
theorem a1b{E:Env}{draw:Bool}{call:CallF}{g:FuncId}{fs cs ar args:List AV}{H:a04}{v:AV}{b:Nat}{o:AObj}(hx:E.ext g=false)(hf:(E.fn g).isSome=true)(he:fs++ar++cs=args)
 (hb:a01 H b=some o)(ho:a0k (some o)=[])(hfl:FlatO (some o))(hargs:a0a args=[b]){args':List AV}(ha:args.map (ren (a3w [b]))=args')(hr:call g args' [some o]=some (v,[some o]))(hv:refs v=[]) :
 a0d E draw call (.func (.func g) fs cs) ar H=some (v,H,[b]):=by
 have hlt:b<H.length:=by
  unfold a01 at hb;cases hh:H[b]? with
  |none=>rw[hh]at hb;cases hb
  |some x=>exact(List.getElem?_eq_some_iff.1 hh).1
 refine a3f [b] hx hf he (by rw[hargs];exact b8f (by rw[hb];exact ho)) rfl (by simpa using hlt) ?_ ha (by simp only[List.map_cons,List.map_nil,hb]) hr hv;intro c hc;simp only[List.mem_singleton]at hc;subst hc;rw[hb];exact hfl
theorem a0m{k:Nat}{rows:List (List AV)}(h:FlatR rows):a0k (some (.row k rows))=[]:=by simp only[a0k];exact a05 h
theorem a0l{H:a04}{b:Nat}{o:AObj}(hb:a01 H b=some o):b<H.length:=by
 unfold a01 at hb;cases hh:H[b]? with
 |none=>rw[hh]at hb;cases hb
 |some x=>exact(List.getElem?_eq_some_iff.1 hh).1
theorem a54{H:a04}{b:Nat}{o:AObj}(hb:a01 H b=some o):H.set b (some o)=H:=by have hlt:=a0l hb;unfold a01 at hb;rw[z9e hlt]at hb;simp only[Option.join_some]at hb;rw[←hb];exact List.set_getElem_self hlt
theorem b2f(b n:Nat)(o:Option AObj)(ho:∀π,o.map (a0e π)=o):∀(s:Nat) (H:a04),s≤b→a0u [b] n [o] s H=H.set (b-s) o
 |s,[],_=>by simp[a0u]
 |s,x::H,hs=>by
  simp only[a0u];by_cases hsb:s=b
  ·subst hsb;have e:([s]:List Nat).idxOf? s=some 0:=by simp[List.idxOf?_cons]
   have hrest:∀(t:Nat) (H:a04),s<t→a0u [s] n [o] t H=H:=by
    intro t H
    induction H generalizing t with
    |nil=>intro _;rfl
    |cons y H ih=>
     intro ht;have e2:([s]:List Nat).idxOf? t=none:=by simp[List.idxOf?_cons];omega
     simp only[a0u,e2,ih (t+1) (by omega)]
   simp only[e,hrest (s+1) H (by omega),Nat.sub_self,List.set_cons_zero]
   congr 1
   exact ho _
  ·have e:([b]:List Nat).idxOf? s=none:=by simp[List.idxOf?_cons];omega
   have e2:b-s=(b-(s+1))+1:=by omega
   rw[e2,List.set_cons_succ];simp only[e,b2f b n o ho (s+1) H (by omega)]
theorem a2z{E:Env}{draw:Bool}{call:CallF}{g:FuncId}{fs cs ar args:List AV}{H:a04}{v v':AV}{b:Nat}{o o':AObj}(hx:E.ext g=false)(hf:(E.fn g).isSome=true)(he:fs++ar++cs=args)
 (hb:a01 H b=some o)(ho:a0k (some o)=[])(hfl:FlatO (some o))(hargs:a0a args=[b]){args':List AV}(ha:args.map (ren (a3w [b]))=args')(hr:call g args' [some o]=some (v,[some o']))(hfl':FlatO (some o'))(hv:ren (a0s [b] H.length) v=v') :
 a0d E draw call (.func (.func g) fs cs) ar H=some (v',H.set b (some o'),[b]):=by
 have hlt:=a0l hb;have hc:=a18 (call g) args H (σ:=[b]) (by rw[hargs];exact b8f (by rw[hb];exact ho)) rfl (by simpa using hlt) ha (H0:=[some o]) (by simp only[a19,List.map_cons,List.map_nil,hb];congr 1;exact hfl _) hr;rw[hv,b2f b _ _ hfl' 0 H (Nat.zero_le _)]at hc;simp only[Nat.sub_zero,List.drop_succ_cons,List.drop_zero,List.map_nil,List.append_nil,List.length_cons,List.length_nil]at hc;exact a96 hx hf he hc (by simp)
theorem a27(b o l:Nat)(c:Option Nat):ren (a3w [b]) (.slice b o l c) = .slice 0 o l c:=by simp[ren,a3w]
theorem a85(b o n l:Nat)(c:Option Nat):ren (a0s [b] n) (.slice 0 o l c) = .slice b o l c:=by rfl
/-! ### slices of slices -/
def inB(i:Int)(n:Nat):Bool:=decide (0≤i)&&decide (i≤(n:Int))
@[go_sem] theorem e70(a n:Nat):inB (a:Int) n=decide (a≤n):=by unfold inB;rw[decide_eq_true (by omega),Bool.true_and,Bool.eq_iff_iff,decide_eq_true_eq,decide_eq_true_eq];omega
@[go_sem] theorem f1r(n:Nat):inB 0 n=true:=by simp[inB]
theorem b1t{k:IntKind}{i:Int}{n d:Nat}:a10 (some (.int k i)) n d=bif inB i n then some i.toNat else none:=by rfl
attribute [go_sem] Option.map_some Option.map_none
section
variable {E:Env}{h:FHeap}{t:TypeId}
theorem b1r{x:AV}{lo hi mx:Option AV}(hs:slT E t=none)(hx:∀s,x≠ .str s):a3y E h t x lo hi mx=none:=by
 unfold a3y;unfold slT at hs;cases hu:E.und t with
 |none=>rfl
 |some d=>rw[hu]at hs;cases d<;>first|(cases hs;done)|(cases x<;>first|rfl|exact absurd rfl (hx _))
@[go_sem] theorem d7h{k k':IntKind}{i j:Int}:a3y E h t .nilslice none (some (.int k i)) (some (.int k' j))=a0h (slT E t) λe=>bif isT E e&&inB j 0&&inB i j.toNat then some .nilslice else none:=by
 cases hs:slT E t with
 |none=>exact b1r hs (λ_ h=>by cases h)
 |some e=>simp only[a3y,a39.1 hs,a0h,b1t,isT];cases(E.und e).isSome<;>cases inB j 0<;>first|rfl|(simp only[cond_true,Bool.true_and];cases inB i j.toNat<;>rfl)
@[go_sem] theorem d9c{b o n:Nat}{c:Option Nat}{k k':IntKind}{i j:Int}:a3y E h t (.slice b o n c) none (some (.int k i)) (some (.int k' j))=a0h (slT E t) λe=>a0h (a88 (h b)) λkr=>bif isT E e&&decide (kr.1=E.sz e)&&inB j (a17 n c)&&inB i j.toNat then some (.slice b o i.toNat (some j.toNat))else none:=by
 cases hs:slT E t with
 |none=>exact b1r hs (λ_ h=>by cases h)
 |some e=>
  simp only[a3y,a39.1 hs,a0h,b1t,isT];cases hb:h b with
  |none=>cases(E.und e).isSome<;>rfl
  |some ob=>cases ob with
   |map=>cases(E.und e).isSome<;>rfl
   |siter=>cases(E.und e).isSome<;>rfl
   |uset=>cases(E.und e).isSome<;>rfl
   |miter=>cases(E.und e).isSome<;>rfl
   |yloop=>cases(E.und e).isSome<;>rfl
   |row kk rows=>simp only[a88,b5q];cases(E.und e).isSome<;>cases decide (kk=E.sz e)<;>cases inB j (a17 n c)<;>first|rfl|(simp only[cond_true,Bool.true_and];cases inB i j.toNat<;>rfl)
@[go_sem] theorem d9b{b o n:Nat}{c:Option Nat}{k:IntKind}{j:Int}:a3y E h t (.slice b o n c) none (some (.int k j)) none=a0h (slT E t) λe=>a0h (a88 (h b)) λkr=>bif isT E e&&decide (kr.1=E.sz e)&&inB j (a17 n c)then some (.slice b o j.toNat c)else none:=by
 cases hs:slT E t with
 |none=>exact b1r hs (λ_ h=>by cases h)
 |some e=>
  have hc:c.map (λx=>x-0)=c:=by cases c<;>rfl
  simp only[a3y,a39.1 hs,a0h,b1t,isT];cases hb:h b with
  |none=>cases(E.und e).isSome<;>rfl
  |some ob=>cases ob with
   |map=>cases(E.und e).isSome<;>rfl
   |siter=>cases(E.und e).isSome<;>rfl
   |uset=>cases(E.und e).isSome<;>rfl
   |miter=>cases(E.und e).isSome<;>rfl
   |yloop=>cases(E.und e).isSome<;>rfl
   |row kk rows=>simp only[a88,b5q];have e0:∀m,a10 (none:Option AV) m 0=some 0:=λ_=>rfl;cases(E.und e).isSome<;>cases decide (kk=E.sz e)<;>cases inB j (a17 n c)<;>first|rfl|(simp only[cond_true,Bool.true_and,e0,hc];rfl)
end
attribute [go_sem] Nat.le_refl Int.toNat_natCast
@[go_sem] theorem d35{α β:Type}(f:α→β)(l:List α):(l.map f).take l.length=l.map f:=by rw[←List.length_map (f:=f),List.take_length]
attribute [go_sem] List.take_length
@[go_sem] theorem c8j(n c:Nat):a17 n (some c)=c:=by rfl
@[go_sem] theorem c8k(n:Nat):a17 n none=n:=by rfl
end Go.Ax
/- AxMelt: calls over flat arguments that return a pointer to a block of their own. -/
namespace Go.Ax
@[go_sem] theorem d6o{v:AV}{H:a04}:a0j true 0 v H=d8w 0 v H:=by rfl
@[go_sem] theorem e4i{m:Nat}{l:List AV}{H:a04}:d8w m (.tuple l) H=some (.tuple l,H):=by rfl
@[go_sem] theorem e16{m:Nat}{H:a04}:d8w m .nilslice H=some (.nilslice,(H.take m).map (Option.map (a0e (a13 m)))):=by rfl
end Go.Ax
/- AxCpy: copy and clear, ar rewrite rules. -/
namespace Go.Ax
section
variable {E:Env}{draw:Bool}{call:CallF}{F:Frm}{H:a04}{h:FHeap}
@[go_sem] theorem e3n(x:Operand)(t:TypeId):a0n E draw call F H (.call { callee:=.builtin .clear,args:=#[x],argTypes:=#[t] })=a0h (a9h E (a01 H) t (opv E F x)) λz=>bif z.2.fits H.length then some (z.1,a89 H z.2,⟨a0g (opv E F x),z.2.keys H.length⟩)else none:=a49 rfl rfl (by simp[a5w])
def f4e(E:Env)(t:TypeId):Option Nat:=match E.und t with
 |some (.slice e)=>bif (E.und e).isSome then some (E.sz e)else none
 |_=>none
def e7v(E:Env)(t:TypeId):Option (Nat×List AV):=match E.und t with
 |some (.slice e)=>match E.zero e with|some z=>bif z.all AV.storable then some (E.sz e,z)else none|none=>none
 |_=>none
theorem c0c(t:TypeId)(b o l:Nat)(c:Option Nat)(hl:(l=0)=False):a9h E h t (.slice b o l c)=a0h (e7v E t) λkz=>a0h (a88 (h b)) λkr=>
 bif decide (kr.1=kz.1)&&decide (o+l≤kr.2.length)then some (.tuple [],.set b (.row kr.1 (kr.2.take o++List.replicate l kz.2++kr.2.drop (o+l))))else none:=by
 have h0:Nat.beq l 0=false:=by rw[c6n,b5q];exact decide_eq_false (by rw[hl];exact id)
 unfold a9h e7v;cases E.und t with
 |none=>rfl
 |some d=>
  cases d<;>try rfl
  rename_i e;simp only[h0,cond_false];cases E.zero e with
  |none=>rfl
  |some z=>
   simp only[a0h];cases hb:h b with
   |none=>cases z.all AV.storable<;>simp[hb,a88]
   |some ob=>cases ob<;>cases hz:z.all AV.storable<;>simp[hb,a88,b5q,c8n]
attribute [go_sem] c0c
end
section
variable {E:Env}{t:TypeId}{c:Bool}{x y:BitVec 64}
end
section
variable {E:Env}{h:FHeap}{t:TypeId}
@[go_sem] theorem d9a{b o n:Nat}{c:Option Nat}{k:IntKind}{i:Int}:a3y E h t (.slice b o n c) (some (.int k i)) none none=a0h (slT E t) λe=>a0h (a88 (h b)) λkr=>bif isT E e&&decide (kr.1=E.sz e)&&inB i n then some (.slice b (o+i.toNat) (n-i.toNat) (c.map (·- i.toNat)))else none:=by
 cases hs:slT E t with
 |none=>exact b1r hs (λ_ h=>by cases h)
 |some e=>
  simp only[a3y,a39.1 hs,a0h,b1t,isT];cases hb:h b with
  |none=>cases(E.und e).isSome<;>rfl
  |some ob=>cases ob with
   |map=>cases(E.und e).isSome<;>rfl
   |siter=>cases(E.und e).isSome<;>rfl
   |uset=>cases(E.und e).isSome<;>rfl
   |miter=>cases(E.und e).isSome<;>rfl
   |yloop=>cases(E.und e).isSome<;>rfl
   |row kk rows=>simp only[a88,b5q];have e0:∀m,a10 (none:Option AV) m n=some n:=λ_=>rfl;cases(E.und e).isSome<;>cases decide (kk=E.sz e)<;>first|rfl|(simp only[cond_true,Bool.true_and,e0];cases inB i n<;>rfl)
end
end Go.Ax
/- AxFz: a loop that freezes at its end, as rewrite rules. -/
namespace Go.Ax
@[go_sem] theorem e7b(m:Nat)(H:a04)(v:AV):d94 m H v=(a23 m true (a3v (a01 H) m 12) v).getD .junk:=by unfold d94;cases a23 m true (a3v (a01 H) m 12) v<;>rfl
@[go_sem] theorem e4s(m:Nat)(top:Bool)(d:AV→Option AV):a23 m top d .junk=some .junk:=by rfl
@[go_sem] theorem e1z(m:Nat)(H:a04)(s:Nat)(v:AV)(F:Frm):c1f m H ((s,v)::F)=(s,d94 m H v)::c1f m H F:=by rfl
@[go_sem] theorem e4w(m:Nat)(H:a04):c1f m H []=[]:=by rfl
@[go_sem] theorem e9w(H:a04):b9b 0 H=[]:=by simp[b9b]
@[go_sem] theorem d93{α:Type}(a b:α):(some a).getD b=a:=by rfl
@[go_sem] theorem e1t(s:Nat):a1f [] s = .junk:=by rfl
@[go_sem] theorem e0k:refs .junk=[]:=by rfl
theorem c4p(m:Nat)(Q:a6h)(e:AExit)(F:Frm)(H:a04):fz m Q e F H=Q e (c1f m H F) (b9b m H):=by rfl
theorem b7u{E:Env}{M:List Fact}{m N:Nat}{g:FuncId}{cur:Nat}{keep:List Nat}{b:Code}{F:Frm}{H:a04}{Q:a6h}(hk:E.keep g cur=keep)(hz:c9i keep=true)(j:Nat)(hj:c4q keep=j){σ:Type}(Fs:σ→Frm)(Hs:σ→a04)(meas:σ→Nat)(Inv:σ→Prop)(s0:σ)(h0:gcD m keep F H=some (Fs s0,Hs s0))(hi:Inv s0)
 (h:∀s,Inv s→Wp (cx E M m N g cur) b (Fs s) (Hs s) (lp m keep Fs Hs meas Inv (meas s) (fz (m+j) Q)))(hx:a5o b=none:=by rfl):Wp (cx E M m N g cur) (.loop b) F H Q:=by
 refine c5j hk hz j hj (λn F1 H1=>∃s,F1=Fs s∧H1=Hs s∧n=meas s∧Inv s) (meas s0) ⟨_,_,h0,s0,rfl,rfl,rfl,hi⟩ ?_ hx
 rintro n F1 H1 ⟨s,rfl,rfl,rfl,hs⟩
 refine b1u (h s hs) ?_;intro e F' H' h2;cases e with
 |normal=>obtain⟨s',g1,g2,g3⟩:=h2;exact⟨_,_,_,g1,g2,s',rfl,rfl,rfl,g3⟩
 |exit id=>exact h2
 |ret=>exact h2
end Go.Ax
/- AxMl: a loop over a set of numbers: as a condition on its end. -/
namespace Go.Ax
theorem b4q:∀H:a04,b8c H H=true
 | []=>rfl
 |a::H=>by simp only[b8c,c3z,b4q H,Bool.and_self]
theorem c41(r:R3):c42 (some r) r=true:=by obtain⟨e,F,H⟩:=r;simp only[c42,a9q,b4q,Bool.and_self,Bool.and_true];cases e<;>simp[d4x]
def AExit.isN:AExit→Bool
 |.normal=>true
 |_=>false
def mlp(m:Nat)(keep:List Nat)(F2:Frm)(H2:a04):a6h:=λe F H=>match e with|.normal=>gcD m keep F H=some (F2,H2)|_=>False
def mle(it:Nat)(e0:AExit)(F0:Frm)(H0:a04):a6h:=λe F H=>e=e0∧F=F0∧dropIt F H it=H0
def Wq(x:Cx)(ops ors:List Oper)(rest:Code)(nx:Nat)(v:AV)(F:Frm)(H:a04)(Q:a6h):Prop:=∃F4 H4 log,a6i x.E false x.N (sem x.E x.M) ops ors [⟨[],[]⟩] ((nx,v)::F) H=some (F4,H4,log)∧Wp x rest F4 H4 Q
theorem xq{x:Cx}{ops ors:List Oper}{rest:Code}{nx:Nat}{v:AV}{F F4:Frm}{H H4:a04}{Q:a6h}{log:List LogE}(h:a6i x.E false x.N (sem x.E x.M) ops ors [⟨[],[]⟩] ((nx,v)::F) H=some (F4,H4,log))(k:Wp x rest F4 H4 Q):Wq x ops ors rest nx v F H Q:=⟨_,_,_,h,k⟩
section
variable {E:Env}{M:List Fact}{m N:Nat}{g:FuncId}{cur:Nat}{keep:List Nat}{id:Nat}{ops:Array Oper}{it nx:Nat}{ors:List Oper}{rest:Code}
noncomputable def c1s(E:Env)(M:List Fact)(m N:Nat)(g:FuncId)(cur:Nat)(lf:Nat)(b:Code):Frm→a04→(AExit→Frm→a04→Option R3)→Option R3:=λF H k=>a2t E m N (E.keep g) (sem E M) lf cur b F H k
theorem c28(hnx:c5f ops.toList=some (it,nx,ors))(hN:Nat.blt nx N=true){ks acc:List Int}{ib:Nat}{act:Option Int}{F F1:Frm}{H H1 H3:a04}{v:AV}{Q:a6h}{arm:Option (Option Int)}
 (hg:gcD m (E.keep g cur) F H=some (F1,H1))(hit:a1f F1 it = .ptr ib 0 0)(hob:a01 H1 ib=some (.miter ks acc arm))
 (hv:b6o F1 (H1.set ib (some (.miter ks acc (some act)))) it=some (v,H3))(hw:Wq (cx E M m N g cur) ops.toList ors rest nx v F1 H3 Q) :
 ∃e F' H',Q e F' H'∧∃n0,∀lf,n0≤lf→a7t m it (E.keep g cur) ks acc (c1s E M m N g cur lf (.seq (.region id ops false) rest)) act F H=some (e,F',H'):=by
 obtain⟨F4,H4,log,h1,h2⟩:=hw;obtain⟨e,F',H',⟨n0,h3⟩,h4⟩:=b7w _ h2;refine⟨e,F',H',h4,n0,λlf hl=>?_⟩;unfold a7t;rw[hg];have ha:e57 ks acc act F1 H1 it=some (H1.set ib (some (.miter ks acc (some act)))):=by unfold e57;rw[hit];simp only[hob,decide_true,Bool.and_self,cond_true]
 simp only[ha,c1s];unfold a2t;unfold a2t;rw[hnx];simp only[hN,Bool.not_true,Bool.or_self,cond_false,hv];rw[b28];have h1':a6i E false N (sem E M) ops.toList ors [⟨[],[]⟩] (a2w F1 (some nx) v) H3=some (F4,H4,log):=h1;rw[h1'];simp only[Bool.not_false,Bool.true_or,cond_true];exact h3 lf hl R3 _
theorem c6l{ks acc:List Int}{ib:Nat}{i:Int}{F1:Frm}{H1:a04}{arm:Option (Option Int)}(hit:a1f F1 it = .ptr ib 0 0)(hob:a01 H1 ib=some (.miter ks acc arm)) :
 b6o F1 (H1.set ib (some (.miter ks acc (some (some i))))) it=some (.tuple [.bool true,.int .i64 i,.bool true],H1.set ib (some (.miter ks (acc++[i]) none))):=by
 unfold b6o;rw[hit];simp only[a5z,a8v hob,and_self,if_true,List.set_set]
theorem c6m{ks acc:List Int}{ib:Nat}{F1:Frm}{H1:a04}{arm:Option (Option Int)}(hit:a1f F1 it = .ptr ib 0 0)(hob:a01 H1 ib=some (.miter ks acc arm)) :
 b6o F1 (H1.set ib (some (.miter ks acc (some none)))) it=some (.tuple [.bool false],H1.set ib (some (.miter ks acc none))):=by
 unfold b6o;rw[hit];simp only[a5z,a8v hob,and_self,if_true,List.set_set]
theorem c09{α:Type}{P:Nat→α→Prop}:∀(L:List α),(∀o∈L,∃n0,∀lf,n0≤lf→P lf o)→∃n0,∀lf,n0≤lf→∀o∈L,P lf o
 | [],_=>⟨0,λ_ _ _ h=>by cases h⟩
 |a::L,h=>by
  obtain⟨n1,h1⟩:=h a (by simp);obtain⟨n2,h2⟩:=c09 L λo ho=>h o (by simp[ho]);refine⟨max n1 n2,λlf hl o ho=>?_⟩;rcases List.mem_cons.1 ho with rfl|ho
  ·exact h1 lf (by omega)
  ·exact h2 lf (by omega) o ho
theorem d2y{F:Frm}{H:a04}{Q:a6h}(hk:E.keep g cur=keep)(ks:List Int)(Fs:List Int→Frm)(Hs:List Int→a04)(ib:Nat)(e0:AExit)(F0:Frm)(H0:a04)(hks:ks.Nodup)(h0:gcD m keep F H=some (Fs [],Hs []))
 (hob:∀V,V.Nodup→(∀x∈V,x∈ks)→a1f (Fs V) it = .ptr ib 0 0∧∃arm,a01 (Hs V) ib=some (.miter ks V arm))
 (hstep:∀V i,V.Nodup→(∀x∈V,x∈ks)→i∈ks→i∉V→Wq (cx E M m N g cur) ops.toList ors rest nx (.tuple [.bool true,.int .i64 i,.bool true]) (Fs V) ((Hs V).set ib (some (.miter ks (V++[i]) none))) (mlp m keep (Fs (V++[i])) (Hs (V++[i]))))
 (hend:∀V,V.Perm ks→Wq (cx E M m N g cur) ops.toList ors rest nx (.tuple [.bool false]) (Fs V) ((Hs V).set ib (some (.miter ks V none))) (mle it e0 F0 H0))
 (hq:Q e0 F0 H0)(he:e0.isN=false:=by rfl)(hnx:c5f ops.toList=some (it,nx,ors):=by rfl)(hN:Nat.blt nx N=true:=by rfl):Wp (cx E M m N g cur) (.loop (.seq (.region id ops false) rest)) F H Q:=by
 subst hk;have key:∀(o acc:List Int) (F':Frm) (H':a04),(acc++o).Perm ks→gcD m (E.keep g cur) F' H'=some (Fs acc,Hs acc)→
  ∃n0,∀lf,n0≤lf→a30 m it (E.keep g cur) ks (c1s E M m N g cur lf (.seq (.region id ops false) rest)) acc o F' H'=some (e0,F0,H0):=by
  intro o
  induction o with
  |nil=>
   intro acc F' H' hp hg;rw[List.append_nil]at hp;obtain⟨hit,arm,hh⟩:=hob acc (hp.nodup_iff.2 hks) (λx hx=>hp.mem_iff.1 hx);obtain⟨e,F2,H2,⟨h1,h2,h3⟩,n0,h4⟩:=c28 (id:=id) (act:=none) hnx hN hg hit hh (c6m hit hh) (hend acc hp);refine⟨n0,λlf hl=>?_⟩;unfold a30;rw[h4 lf hl];subst h1 h2 h3;cases e with
   |normal=>cases he
   |exit i=>rfl
   |ret=>rfl
  |cons i o ih=>
   intro acc F' H' hp hg;have hnd:=hp.nodup_iff.2 hks;rw[List.nodup_append]at hnd;have hsub:∀x∈acc,x∈ks:=λx hx=>hp.mem_iff.1 (by simp[hx]);obtain⟨hit,arm,hh⟩:=hob acc hnd.1 hsub;obtain⟨e,F2,H2,h1,n0,h4⟩:=c28 (id:=id) (act:=some i) hnx hN hg hit hh (c6l hit hh) (hstep acc i hnd.1 hsub (hp.mem_iff.1 (by simp)) (λh=>hnd.2.2 i h i (by simp) rfl));cases e with
   |exit id=>exact h1.elim
   |ret=>exact h1.elim
   |normal=>obtain⟨n1,h5⟩:=ih (acc++[i]) F2 H2 (by simpa using hp) h1;refine⟨max n0 n1,λlf hl=>?_⟩;unfold a30;rw[h4 lf (by omega)];exact h5 lf (by omega)
 obtain⟨n0,hall⟩:=c09 (a6x ks) (P:=λlf o=>a30 m it (E.keep g cur) ks (c1s E M m N g cur lf (.seq (.region id ops false) rest)) [] o F H=some (e0,F0,H0)) (λo ho=>key o [] F H (b2h ho) h0);refine⟨e0,F0,H0,⟨n0,λlf hl R k=>?_⟩,hq⟩;have hnl:a5o (.seq (.region id ops false) rest)=some it:=by show(c5f ops.toList).map (·.1)=some it;rw[hnx];rfl
 have hall:=hall lf hl;show a2t E m N (E.keep g) (sem E M) lf cur (.loop (.seq (.region id ops false) rest)) F H k=_;unfold a2t;rw[hnl];show b8k m it (E.keep g cur) (c1s E M m N g cur lf (.seq (.region id ops false) rest)) F H k=_;unfold b8k;have hso:d4u m it (E.keep g cur) F H=some ks:=by obtain⟨hit,arm,hh⟩:=hob [] List.nodup_nil (by simp);unfold d4u;rw[h0];simp only[hit,hh]
 rw[hso];simp only;cases hL:(a6x ks).map λo=>a30 m it (E.keep g cur) ks (c1s E M m N g cur lf (.seq (.region id ops false) rest)) [] o F H with
 |nil=>have:=List.mem_map_of_mem (f:=λo=>a30 m it (E.keep g cur) ks (c1s E M m N g cur lf (.seq (.region id ops false) rest)) [] o F H) (a9v (List.Perm.refl ks));rw[hL]at this;cases this
 |cons x rs=>
  have hx:∀y∈x::rs,y=some (e0,F0,H0):=by intro y hy;rw[←hL]at hy;obtain⟨o,ho,rfl⟩:=List.mem_map.1 hy;exact hall o ho
  rw[hx x (by simp)];have:rs.all (λx=>c42 x (e0,F0,H0))=true:=by rw[List.all_eq_true];intro y hy;rw[hx y (by simp[hy])];exact c41 _
  simp only[this,cond_true]
end
end Go.Ax
/- AxSetS: sets of numbers, as rewrite rules. -/
namespace Go.Ax
section
variable {E:Env}{h:FHeap}{t:TypeId}{draw:Bool}{call:CallF}{F:Frm}{H:a04}
@[go_sem] theorem e0y:b51 E t=bif a7w E t then .uset []else .map [] [] [] 0:=by rfl
@[go_sem] theorem d91(k e:TypeId):b2w (some (.map k e))=true:=by rfl
/-! lookup -/
def d0m(E:Env)(t:TypeId)(ks:List Int)(o:Bool):AV→Option AV
 |.int .i64 i=>bif a7w E t then some (bif o then .tuple [.bool (ks.contains i),.bool (ks.contains i)]else .bool (ks.contains i))else none
 |_=>none
@[go_sem] theorem e6r(ks:List Int)(o:Bool)(i:Int):d0m E t ks o (.int .i64 i)=bif a7w E t then some (bif o then .tuple [.bool (ks.contains i),.bool (ks.contains i)]else .bool (ks.contains i))else none:=by rfl
def c74(E:Env)(h:FHeap)(t:TypeId)(b:Nat)(k:AV)(o:Bool):Option AObj→Option AV
 |some (.uset ks)=>d0m E t ks o k
 |_=>a45 E h t (.map b) k o
@[go_sem] theorem e6s(b:Nat)(k:AV)(o:Bool)(ks:List Int):c74 E h t b k o (some (.uset ks))=d0m E t ks o k:=by rfl
theorem c07{x k:AV}{o:Bool}(hm:b11 h x=none):a45 E h t x k o=none:=by
 unfold a45;split
 ·rw[cond_eq_ite];split
  ·rw[hm]
  ·rfl
 ·rfl
@[go_sem] theorem e6q(b:Nat)(k:AV)(o:Bool):oor (a45 E h t (.map b) k o) (a5x E h t (.map b) k o)=c74 E h t b k o (h b):=by
 cases hb:h b with
 |none=>
  have:a5x E h t (.map b) k o=none:=by simp only[a5x,a8b,hb]
  rw[this];simp only[c74];cases a45 E h t (.map b) k o<;>rfl
 |some ob=>
  cases ob with
  |uset ks=>rw[c07 (by simp only[b11,hb])];simp only[oor,a5x,a8b,hb,c74];unfold d0m;cases k<;>first|rfl|(rename_i kk i;cases kk<;>rfl)
  |_=>
   have:a5x E h t (.map b) k o=none:=by simp only[a5x,a8b,hb]
   rw[this];simp only[c74];cases a45 E h t (.map b) k o<;>rfl
/-! update -/
def e3h(E:Env)(t:TypeId)(b:Nat)(ks:List Int):AV→AV→Option Eff
 |.int .i64 i,.bool q=>bif a7w E t&&q then some (.set b (.uset (bif ks.contains i then ks else c7d i ks)))else none
 |_,_=>none
@[go_sem] theorem e8h(b:Nat)(ks:List Int)(i:Int)(q:Bool):e3h E t b ks (.int .i64 i) (.bool q)=bif a7w E t&&q then some (.set b (.uset (bif ks.contains i then ks else c7d i ks)))else none:=by rfl
def d9o(E:Env)(h:FHeap)(t:TypeId)(b:Nat)(k v:AV):Option AObj→Option Eff
 |some (.uset ks)=>e3h E t b ks k v
 |_=>a1c E h t (.map b) k v
@[go_sem] theorem e8i(b:Nat)(k v:AV)(ks:List Int):d9o E h t b k v (some (.uset ks))=e3h E t b ks k v:=by rfl
theorem c1v{b:Nat}{k:AV}(hb:∀ks vs bs cl,h b≠some (.map ks vs bs cl)):a9c E h t (.map b) k=none:=by
 unfold a9c;split
 ·rename_i kt _ b' hu he;cases he;rw[cond_eq_ite];split
  ·split
   ·rename_i hh;exact absurd hh (hb _ _ _ _)
   ·rfl
  ·rfl
 ·rfl
@[go_sem] theorem e8g(b:Nat)(k v:AV):oor (a1c E h t (.map b) k v) (a9a E h t (.map b) k v)=d9o E h t b k v (h b):=by
 have none_case:(∀ks,h b≠some (.uset ks))→a9a E h t (.map b) k v=none:=by
  intro hn;unfold a9a;split
  ·rename_i b' i q he;cases he;split
   ·rename_i ks hh;exact absurd hh (hn ks)
   ·rfl
  ·rfl
 cases hb:h b with
 |none=>rw[none_case (by rw[hb];simp)];simp only[d9o];cases a1c E h t (.map b) k v<;>rfl
 |some ob=>
  cases ob with
  |uset ks=>
   have:a1c E h t (.map b) k v=none:=by unfold a1c;rw[c1v (by rw[hb];simp)]
   rw[this];simp only[oor,d9o];unfold e3h a9a;cases k<;>first|rfl|(rename_i kk i;cases kk<;>first|rfl|(cases v<;>first|rfl|(simp only[hb])))
  |_=>rw[none_case (by rw[hb];simp)];simp only[d9o];cases a1c E h t (.map b) k v<;>rfl
/-! delete -/
@[go_sem] theorem d9y(x y:Operand)(t u:TypeId):a0n E draw call F H (.call { callee:=.builtin .delete,args:=#[x,y],argTypes:=#[t,u] })=a0h (b41 E (a01 H) t (opv E F x) (opv E F y)) λe=>bif e.fits H.length then some (.tuple [],a89 H e,⟨a0g (opv E F x)++a0g (opv E F y),e.keys H.length⟩)else none:=by refine(a49 (v:=(b41 E (a01 H) t (opv E F x) (opv E F y)).map (.tuple [],·)) rfl rfl rfl).trans ?_;cases b41 E (a01 H) t (opv E F x) (opv E F y)<;>simp[a5w,a0h]
def e7q(E:Env)(t:TypeId)(b:Nat)(i:Int):Option AObj→Option Eff
 |some (.uset ks)=>bif a7w E t then some (.set b (.uset (ks.filter λy=>!decide (y=i))))else none
 |_=>none
@[go_sem] theorem f01(b:Nat)(i:Int)(ks:List Int):e7q E t b i (some (.uset ks))=bif a7w E t then some (.set b (.uset (ks.filter λy=>!decide (y=i))))else none:=by rfl
@[go_sem] theorem e8d(b:Nat)(i:Int):b41 E h t (.map b) (.int .i64 i)=e7q E t b i (h b):=by
 unfold b41 e7q;cases hb:h b with
 |none=>simp only[hb]
 |some ob=>cases ob<;>simp only[hb]
/-! length -/
def e9t:Option AObj→Option AV
 |some (.map ks _ _ _)=>some (.int .i64 ks.length)
 |some (.uset ks)=>some (.int .i64 ks.length)
 |_=>none
@[go_sem] theorem e9s(ks:List Int):e9t (some (.uset ks))=some (.int .i64 ks.length):=by rfl
@[go_sem] theorem e8b{b:Nat}(hs:b2w (E.und t)=true):b4f E h t (.map b)=e9t (h b):=by
 obtain⟨x,y,hu⟩:=b00 hs;simp only[b4f,hu];cases h b with
 |none=>rfl
 |some ob=>cases ob<;>rfl
/-! ranging -/
@[go_sem] theorem e4a{n:Nat}{ks:List Int}:oor (b10 E n t (.iset ks)) (b0h E n t (.iset ks))=bif b2w (E.und t)then some (.ptr n 0 0,.new (.miter ks [] none))else none:=by
 have:b10 E n t (.iset ks)=none:=by unfold b10;split<;>first|rfl|(rename_i h;cases h)
 rw[this];rfl
@[go_sem] theorem e3m(it:Operand):a0n E draw call F H (.entry it)=a0h (a6f (a01 H) (opv E F it)) λv=>some (v,H,⟨a0g (opv E F it),[]⟩):=a1m rfl rfl
def e50:Option AObj→Option AV
 |some (.miter _ vis _)=>(vis.getLast?).map λi=>.tuple [.int .i64 i,.bool true]
 |_=>none
@[go_sem] theorem e7n(ks vis:List Int)(i:Int)(arm:Option (Option Int)):e50 (some (.miter ks (vis++[i]) arm))=some (.tuple [.int .i64 i,.bool true]):=by simp[e50]
@[go_sem] theorem e5e(b:Nat):a6f h (.ptr b 0 0)=e50 (h b):=by
 unfold a6f e50;cases hb:h b with
 |none=>simp only[hb]
 |some ob=>
  cases ob
  case miter ks vis arm=>simp only[hb];cases vis.getLast?<;>rfl
  all_goals simp only[hb]
/-! frames and heaps -/
variable (π:Nat→Option Nat)
@[go_sem] theorem d8o(ks:List Int):a0k (some (.uset ks))=[]:=by rfl
@[go_sem] theorem d5f(ks vis:List Int)(arm:Option (Option Int)):a0k (some (.miter ks vis arm))=[]:=by rfl
@[go_sem] theorem d5c(ks:List Int):a0e π (.uset ks) = .uset ks:=by rfl
@[go_sem] theorem d3l(ks vis:List Int)(arm:Option (Option Int)):a0e π (.miter ks vis arm) = .miter ks vis arm:=by rfl
end
theorem c7q{h:FHeap}{m n b:Nat}{ks:List Int}(hn:0<n)(hb:h b=some (.uset ks)):a3v h m n (.map b)=some (.iset ks):=by
 obtain⟨n,rfl⟩:∃k,n=k+1:=⟨n-1,by omega⟩
 simp only[a3v,hb]
end Go.Ax
/- AxSup: closed runs over facts of calls, a59 a given fact. -/
namespace Go.Ax
end Go.Ax
/- AxTwo: slices of slices that grow: one block of rows, a block for each that is not empty. -/
namespace Go.Ax
theorem a0x{H L:a04}{c:Nat}(h:(c<H.length)=True):a01 (H++L) c=a01 H c:=by unfold a01;rw[List.getElem?_append_left (of_eq_true h)]
theorem a1s{H L:a04}(i:Nat):a01 (H++L) (H.length+i)=a01 L i:=by unfold a01;rw[List.getElem?_append_right (by omega)];congr 1;rw[Nat.add_sub_cancel_left]
theorem a1r{H L:a04}:a01 (H++L) H.length=a01 L 0:=a1s 0
theorem b34{H:a04}{a c:Nat}{o:Option AObj}:a01 (H.set a o) c=if a=c∧a<H.length then o else a01 H c:=by
 unfold a01;rw[List.getElem?_set];by_cases h:a=c
 ·subst h;by_cases hl:a<H.length
  ·simp[hl]
  ·simp[hl]
 ·simp[h]
theorem a0q{H:a04}{a c:Nat}{o:Option AObj}(h:a≠c):a01 (H.set a o) c=a01 H c:=by rw[b34,if_neg (λe=>h e.1)]
theorem a4p{H:a04}{a c:Nat}{o:Option AObj}(h:(a=c)=False):a01 (H.set a o) c=a01 H c:=a0q (λe=>h▸e)
theorem a1o{H:a04}{a:Nat}{o:Option AObj}(h:a<H.length):a01 (H.set a o) a=o:=by rw[b34,if_pos ⟨rfl,h⟩]
def slV(b:Nat)(c:Option Nat):List (List AV)→AV|[]=>.nilslice|_::rs=>.slice b 0 (rs.length+1) c
theorem b63(b:Nat)(f:List (List AV)):slV b none f=grV b f:=by cases f<;>rfl
theorem d3f(b:Nat)(c:Option Nat){f:List (List AV)}(h:f≠[]):slV b c f = .slice b 0 f.length c:=by cases f with|nil=>exact absurd rfl h|cons a r=>rfl
theorem a56{H L:a04}{o:Option AObj}(i:Nat):(H++L).set (H.length+i) o=H++L.set i o:=by rw[List.set_append_right _ _ (by omega),Nat.add_sub_cancel_left]
theorem a41{H L:a04}{o:Option AObj}:(H++L).set H.length o=H++L.set 0 o:=a56 0
theorem a55{H L:a04}{o:Option AObj}{a:Nat}(h:(a<H.length)=True):(H++L).set a o=H.set a o++L:=List.set_append_left _ _ (of_eq_true h)
theorem a3n(n:Nat):(n<n+1)=True:=by simp
theorem a2m{a n k:Nat}(h:(a<n)=True):(a<n+k)=True:=by have:=of_eq_true h;simp;omega
def a25(ids:Nat→Nat)(cp:Nat→Option Nat)(fo:List (List (List AV))):List (List AV):=fo.mapIdx λj f=>[slV (ids j) (cp j) f]
structure Two(H:a04)(b k:Nat)(ids:Nat→Nat)(cp:Nat→Option Nat)(fo:List (List (List AV))):Prop where
 top:a01 H b=some (.row 1 (a25 ids cp fo))
 sub:∀(j:Nat) (f:List (List AV)),fo[j]?=some f→f≠[]→a01 H (ids j)=some (.row k f)∧ids j≠b
 inj:∀(i j:Nat) (f g:List (List AV)),fo[i]?=some f→fo[j]?=some g→f≠[]→g≠[]→ids i=ids j→i=j
 flat:∀f∈fo,FlatR f
theorem a8j{ids:Nat→Nat}{cp:Nat→Option Nat}{fo:List (List (List AV))}{j:Nat}{f:List (List AV)}(h:fo[j]?=some f):(a25 ids cp fo)[j]?=some [slV (ids j) (cp j) f]:=by unfold a25;rw[List.getElem?_mapIdx,h];rfl
theorem a3l(ids:Nat→Nat)(cp:Nat→Option Nat)(fo:List (List (List AV))):(a25 ids cp fo).length=fo.length:=by unfold a25;simp
theorem b19(b:Nat)(c:Option Nat){f:List (List AV)}:refs (slV b c f)=if f=[]then[]else[b]:=by cases f<;>rfl
theorem a7g{ids:Nat→Nat}{cp:Nat→Option Nat}{fo:List (List (List AV))}{c:Nat}:c∈(a25 ids cp fo).flatMap a0a↔∃j f,fo[j]?=some f∧f≠[]∧c=ids j:=by
 unfold a25;simp only[List.mem_flatMap];constructor
 ·rintro⟨r,hr,hc⟩
  obtain⟨j,hj⟩:=List.mem_iff_getElem?.1 hr;rw[List.getElem?_mapIdx]at hj;cases hf:fo[j]? with
  |none=>rw[hf]at hj;cases hj
  |some f=>
   rw[hf]at hj;cases hj;simp only[a0a,b19,List.append_nil]at hc;split at hc
   ·simp at hc
   ·rename_i hne;exact⟨j,f,hf,hne,by simpa using hc⟩
 ·rintro⟨j,f,hf,hne,rfl⟩
  refine⟨[slV (ids j) (cp j) f],List.mem_iff_getElem?.2 ⟨j,by rw[List.getElem?_mapIdx,hf];rfl⟩,?_⟩;simp[a0a,b19,hne]
theorem c5s{π:Nat→Option Nat}{b c:Nat}{q:Option Nat}{f:List (List AV)}(h:f≠[]→π b=some c):ren π (slV b q f)=slV c q f:=by
 cases f with
 |nil=>rfl
 |cons a r=>simp only[slV,ren,h (by simp)]
section
variable {m:Nat}{F:Frm}{H H1:a04}{R:Nat→Prop}{π:Nat→Option Nat}{b k:Nat}{ids:Nat→Nat}{cp:Nat→Option Nat}{fo:List (List (List AV))}
theorem b18{H:a04}:∀(l:List Nat),(∀c∈l,a0k (a01 H c)=[])→(l.map λc=>(a0k (a01 H c)).length).sum=0
 | [],_=>rfl
 |a::l,h=>by simp only[List.map_cons,List.sum_cons,h a (by simp),List.length_nil,b18 l (λc hc=>h c (by simp[hc]))]
theorem Two.clip(h:Two H b k ids cp fo){j c:Nat}{f:List (List AV)}(hf:fo[j]?=some f)(h1:a01 H1 b=some (.row 1 ((a25 ids cp fo).set j [slV (ids j) (some c) f])))
 (h3:∀c,c≠b→a01 H1 c=a01 H c):Two H1 b k ids (λi=>if i=j then some c else cp i) fo:=by
 have hjl:j<fo.length:=(List.getElem?_eq_some_iff.1 hf).1;refine⟨?_,λi g hg hne=>?_,h.inj,h.flat⟩
 ·rw[h1]
  congr 2
  apply List.ext_getElem?;intro i;unfold a25;rw[List.getElem?_set,List.length_mapIdx];by_cases hij:j=i
  ·subst hij;simp only[if_true,hjl];rw[List.getElem?_mapIdx,hf];simp
  ·simp only[if_neg hij];rw[List.getElem?_mapIdx,List.getElem?_mapIdx];simp only[if_neg (Ne.symm hij)]
 ·obtain⟨g1,g2⟩:=h.sub i g hg hne;rw[h3 _ g2];exact⟨g1,g2⟩
def slF(c:Option Nat):List (List AV)→AV|[]=>.nilslice|r::rs=>.islice (r::rs) c
theorem Two.frz(h:Two H b k ids cp fo)(c:Option Nat):a23 0 true (a3v (a01 H) 0 12) (.slice b 0 fo.length c)=some (.islice (fo.mapIdx λj f=>[slF (cp j) f]) c):=by
 have key:∀(rows:List (List AV)) (out:List (List AV)),rows.length=out.length→(∀(j:Nat) r o,rows[j]?=some r→out[j]?=some o→a4z 0 false (a3v (a01 H) 0 11) r=some o)→b39 0 (a3v (a01 H) 0 11) rows=some out:=by
  intro rows
  induction rows with
  |nil=>intro out hl _;cases out with|nil=>rfl|cons=>simp at hl
  |cons r rows ih=>
   intro out hl hh;cases out with
   |nil=>simp at hl
   |cons o out=>rw[b38,hh 0 r o rfl rfl];simp only[a0h];rw[ih out (by simpa using hl) (λj r o hr ho=>hh (j+1) r o (by simpa using hr) (by simpa using ho))]
 have e12:∀x,a3v (a01 H) 0 12 x=a3v (a01 H) 0 (11+1) x:=λ_=>rfl;rw[a8w,decide_eq_false (Nat.not_lt_zero b),cond_false,b07 (eq_true (by omega:0<12)),h.top];simp only[a88,a0h,a3l,List.drop_zero,Nat.zero_add];rw[decide_eq_true (Nat.le_refl _),cond_true,←a3l ids cp fo,List.take_length];rw[key (a25 ids cp fo) (fo.mapIdx λj f=>[slF (cp j) f]) (by rw[a3l];simp)];intro j r o hr ho;rw[List.getElem?_mapIdx]at ho;cases hf:fo[j]? with
 |none=>rw[hf]at ho;cases ho
 |some f=>
  rw[hf]at ho;rw[a8j hf]at hr;cases ho;cases hr;rw[b9a,c36];cases f with
  |nil=>rfl
  |cons x xs=>obtain⟨g1,_⟩:=h.sub j _ hf (by simp);have hfl:=h.flat _ (List.mem_of_getElem? hf);simp only[slV,slF];rw[a8w,decide_eq_false (Nat.not_lt_zero _),cond_false,b07 (eq_true (by omega:0<11)),g1];simp only[a88,a0h,List.drop_zero,Nat.zero_add];rw[decide_eq_true (by simp),cond_true];have:List.take (xs.length+1) (x::xs)=x::xs:=List.take_length (l:=x::xs);rw[this,a3p _ _ hfl]
end
theorem a1w{H L:a04}{a:Nat}{o:Option AObj}(i:Nat):a01 (H.set a o++L) (H.length+i)=a01 L i:=by
 have:=a1s (H:=H.set a o) (L:=L) i
 rwa [List.length_set]at this
theorem a8u{H L:a04}{a c:Nat}{o:Option AObj}(hc:c<H.length):a01 (H.set a o++L) c=if a=c then o else a01 H c:=by
 rw[a0x (eq_true (by rw[List.length_set];exact hc)),b34];by_cases h:a=c
 ·subst h;simp[hc]
 ·simp[h]
section
variable {H:a04}{b k:Nat}{ids:Nat→Nat}{cp:Nat→Option Nat}{fo:List (List (List AV))}{j:Nat}{x:List AV}{o:Option AObj}
end
def fqE(E:Env)(g:FuncId)(m:Nat)(results:List ResultVar)(P:AV×a04→Prop):a6h:=λe F H=>match e with|.exit _=>False|_=>∃vs r,a0z E F H results=some vs∧a0j (E.thaw g) m (a2p vs) H=some r∧P r
theorem a3q{E:Env}{g:FuncId}{m:Nat}{results:List ResultVar}{P:AV×a04→Prop}{F:Frm}{H:a04}{vs:List AV}{r:AV×a04}(h1:a0z E F H results=some vs)(h2:a0j (E.thaw g) m (a2p vs) H=some r)(h3:P r):fqE E g m results P .ret F H:=⟨vs,r,h1,h2,h3⟩
theorem a32{E:Env}{g:FuncId}{m:Nat}{results:List ResultVar}{P:AV×a04→Prop}{F:Frm}{H:a04}{vs:List AV}{r:AV×a04}(h1:a0z E F H results=some vs)(h2:a0j (E.thaw g) m (a2p vs) H=some r)(h3:P r):fqE E g m results P .normal F H:=⟨vs,r,h1,h2,h3⟩
theorem d4v{E:Env}{M:List Fact}{g:FuncId}{args:List AV}{H:a04}{code:Code}{N:Nat}{results:List ResultVar}{P:AV×a04→Prop}
 (hfn:E.fn g=some ⟨code,N,results⟩)(hno:∀y∈M,y.g≠g)(hN:Nat.ble args.length N=true){m:Nat}(hm:H.length=m)(h:Wp (cx E M m N g 0) code (a3s 0 args) H (fqE E g m results P))(hp:E.prim g args=none:=by rfl)(hz:E.zf g=false:=by rfl):∃r,P r∧sem E M g args H=some r:=by
 subst hm;obtain⟨e,F',H',h1,h2⟩:=b7w _ h;cases e with
 |normal=>obtain⟨vs,⟨v,H2⟩,h3,h4,h5⟩:=h2;exact⟨_,h5,c29 hfn hno hN h1 (λ_ h=>by cases h) h3 h4 hp hz⟩
 |ret=>obtain⟨vs,⟨v,H2⟩,h3,h4,h5⟩:=h2;exact⟨_,h5,c29 hfn hno hN h1 (λ_ h=>by cases h) h3 h4 hp hz⟩
 |exit id=>exact h2.elim
theorem e7c{E:Env}{g:FuncId}{m:Nat}{results:List ResultVar}{P:AV×a04→Prop}{e:AExit}{F:Frm}{H:a04}{r:AV×a04}(h:(bif e.fin then a0h (a0z E F H results) λvs=>a0j (E.thaw g) m (a2p vs) H else none)=some r)(h3:P r):fqE E g m results P e F H:=by
 have h:=fqb h;cases e with
 |exit i=>exact h
 |_=>obtain⟨vs,h1,h2⟩:=h;exact⟨vs,r,h1,h2,h3⟩
theorem svE{E:Env}{M:List Fact}{g:FuncId}{args:List AV}{H:a04}{P:AV×a04→Prop}(f:Func)(h:Wp (cx E M H.length f.ntmps g 0) (f.body.getD .skip) (a3s 0 args) H (fqE E g H.length f.results.toList P))(hfn:E.fn g=some ⟨f.body.getD .skip,f.ntmps,f.results.toList⟩:=by kernel_rfl)
 (hno:(M.all λy=>!Nat.beq y.g g)=true:=by rfl)(hN:Nat.ble args.length f.ntmps=true:=by rfl)(hp:E.prim g args=none:=by rfl)(hz:E.zf g=false:=by rfl):∃r,P r∧sem E M g args H=some r:=d4v hfn (λy hy e=>by
 have:=List.all_eq_true.1 hno y hy;rw[e]at this;simp at this) hN rfl h hp hz
end Go.Ax
/- AxCall3: calls over two blocks, which they may write. -/
namespace Go.Ax
theorem a4e{σ:List Nat}{n:Nat}{H1:a04}:∀(s:Nat) (H:a04) (i:Nat),(a0u σ n H1 s H)[i]?=(H[i]?).map λo=>match σ.idxOf? (s+i)with|some j=>(a01 H1 j).map (a0e (a0s σ n))|none=>o
 |s,[],i=>by simp[a0u]
 |s,o::H,0=>by simp[a0u];rfl
 |s,o::H,i+1=>by simp only[a0u,List.getElem?_cons_succ,a4e (s+1) H i];rw[show s+1+i=s+(i+1) by omega]
theorem c69{H:a04}{a b:Nat}(hab:a≠b)(ha:a0k (a01 H a)=[])(hb:a0k (a01 H b)=[]):a1t H 1000000 [a,b] []=[a,b]:=by
 have e:a1t H (999996+4) [a,b] []=[a,b]:=by
  unfold a1t;simp only[a0v,cond_false,ha,List.nil_append];unfold a1t;have h1:a0v [a] b=false:=by
   cases hc:a0v [a] b with
   |false=>rfl
   |true=>exact absurd (by simpa using a1x.1 hc) (Ne.symm hab)
  simp only[h1,cond_false,hb,List.nil_append];unfold a1t;rfl
 exact e
theorem b9t{E:Env}{draw:Bool}{call:CallF}{g:FuncId}{fs cs ar args:List AV}{H:a04}{v v':AV}{a b:Nat}{o1 o2 p1 p2:AObj}(hx:E.ext g=false)(hf:(E.fn g).isSome=true)(he:fs++ar++cs=args)
 (hab:a≠b)(ha:a01 H a=some o1)(hb:a01 H b=some o2)(hr1:a0k (some o1)=[])(hr2:a0k (some o2)=[])(hf1:FlatO (some o1))(hf2:FlatO (some o2))(hargs:a0a args=[a,b])
 {args':List AV}(hra:args.map (ren (a3w [a,b]))=args')(hr:call g args' [some o1,some o2]=some (v,[some p1,some p2]))(hp1:FlatO (some p1))(hp2:FlatO (some p2))(hv:ren (a0s [a,b] H.length) v=v') :
 a0d E draw call (.func (.func g) fs cs) ar H=some (v',(H.set a (some p1)).set b (some p2),[a,b]):=by
 have l1:=a0l ha;have l2:=a0l hb;have hn:a3x [a,b]=true:=a6z (by simp[hab]);have hc:=a18 (call g) args H (σ:=[a,b]) (by rw[hargs];exact c69 hab (by rw[ha];exact hr1) (by rw[hb];exact hr2)) hn (by simp[l1,l2]) hra (H0:=[some o1,some o2])
  (by simp only[a19,List.map_cons,List.map_nil,ha,hb];rw[hf1,hf2]) hr
 have hpb:a0u [a,b] H.length [some p1,some p2] 0 H=(H.set a (some p1)).set b (some p2):=by
  apply List.ext_getElem?;intro i;rw[a4e,List.getElem?_set,List.getElem?_set,List.length_set,Nat.zero_add];by_cases hia:a=i
  ·subst hia;have e:([a,b]:List Nat).idxOf? a=some 0:=by simp[List.idxOf?_cons]
   rw[z9e l1];simp only[Option.map_some,e,if_neg (Ne.symm hab),if_true,l1]
   congr 1
   exact hp1 _
  ·by_cases hib:b=i
   ·subst hib;have e:([a,b]:List Nat).idxOf? b=some 1:=by simp[List.idxOf?_cons,hab]
    rw[z9e l2];simp only[Option.map_some,e,if_true,l2]
    congr 1
    exact hp2 _
   ·have e:([a,b]:List Nat).idxOf? i=none:=by simp[List.idxOf?_cons,hia,hib]
    rw[if_neg hib,if_neg hia];cases H[i]? with
    |none=>rfl
    |some o=>simp only[Option.map_some,e]
 rw[hv,hpb]at hc;simp only[List.drop_succ_cons,List.drop_zero,List.map_nil,List.append_nil,List.length_cons,List.length_nil]at hc;exact a96 hx hf he hc (by simp)
end Go.Ax
/- AxTab: a table of rows of words in blocks, wherever they lie; heads of loops and calls over it. -/
namespace Go.Ax
structure Mv(H:a04)(R:Nat→Prop)(π:Nat→Option Nat)(H1:a04):Prop where
 inj:∀a b c,π a=some c→π b=some c→a=b
 closed:∀b,R b→∀c∈a0k (a01 H b),R c
 here:∀b,R b→∃c,π b=some c
 heap:∀b c,R b→π b=some c→a01 H1 c=(a01 H b).map (a0e π)
theorem Gc.mv{m:Nat}{F:Frm}{H H1:a04}{R:Nat→Prop}{π:Nat→Option Nat}(g:Gc m F H R π H1):Mv H R π H1:=⟨g.inj,g.closed,g.here,λb c _ h=>g.heap b c h⟩
section
variable {H H1:a04}{R:Nat→Prop}{π:Nat→Option Nat}{a b q:Nat}{ids:Nat→Nat}{w:Nat}{fo:List (List (BitVec 64))}{fr:Int}
end
/-! ### calls, wherever the blocks lie -/
theorem b82{H:a04}{σ:List Nat}(hn:σ.Nodup){b:Nat}(hb:b∈σ):∃j,a3w σ b=some j∧σ[j]?=some b∧a01 (a19 H σ (a3w σ)) j=(a01 H b).map (a0e (a3w σ)):=by obtain⟨j,hj⟩:=List.mem_iff_getElem?.1 hb;refine⟨j,a3c hn hj,hj,?_⟩;unfold a19 a01;rw[List.getElem?_map,hj];rfl
theorem e0r{H H1:a04}{σ:List Nat}{n b j:Nat}(hn:σ.Nodup)(hj:σ[j]?=some b)(hb:b<H.length):a01 (a0u σ n H1 0 H) b=(a01 H1 j).map (a0e (a0s σ n)):=by unfold a01;rw[a4e,z9e hb,Nat.zero_add,a3c hn hj];rfl
theorem b2g{σ:List Nat}{n:Nat}{H1:a04}:∀(s:Nat) (H:a04),(a0u σ n H1 s H).length=H.length
 |_,[]=>rfl
 |s,o::H=>by simp[a0u,b2g (s+1) H]
theorem d0c{H:a04}{init σ:List Nat}(hr:Reached H init σ):Mv H (·∈σ) (a3w σ) (a19 H σ (a3w σ)):=by
 refine⟨?_,hr.closed,λb hb=>?_,λb c hb hc=>?_⟩
 ·intro a b c ha hb;have h1:=a1h ha;have h2:=a1h hb;rw[h1]at h2;exact z9o h2
 ·obtain⟨j,hj,_⟩:=b82 (H:=H) hr.nodup hb;exact⟨j,hj⟩
 ·obtain⟨j,hj,_,e⟩:=b82 (H:=H) hr.nodup hb;rw[hj]at hc;cases hc;exact e
theorem d5u{H H1:a04}{σ:List Nat}(hn:σ.Nodup)(hl:∀b∈σ,b<H.length)(R:Nat→Prop)(hR:∀j,R j→j<σ.length)(hc:∀j,R j→∀c∈a0k (a01 H1 j),R c):Mv H1 R (a0s σ H.length) (a0u σ H.length H1 0 H):=by
 have hb:∀j,j<σ.length→a0s σ H.length j=σ[j]?:=λj hj=>by unfold a0s;rw[show Nat.blt j σ.length=true by rw[Nat.blt_eq];exact hj];rfl
 have hge:∀j,¬j<σ.length→a0s σ H.length j=some (H.length+(j-σ.length)):=λj hj=>by
  unfold a0s;have:Nat.blt j σ.length=false:=by rw[Bool.eq_false_iff];intro h;rw[Nat.blt_eq]at h;exact hj h
  rw[this];rfl
 refine⟨?_,hc,λj hj=>?_,λj c hj hjc=>?_⟩
 ·intro x y c hx hy;by_cases h1:x<σ.length<;>by_cases h2:y<σ.length
  ·rw[hb x h1]at hx;rw[hb y h2]at hy;exact(List.getElem?_inj h1 hn).1 (hx.trans hy.symm)
  ·rw[hb x h1]at hx;rw[hge y h2]at hy;have:=hl c (List.mem_of_getElem? hx);cases hy;omega
  ·rw[hge x h1]at hx;rw[hb y h2]at hy;have:=hl c (List.mem_of_getElem? hy);cases hx;omega
  ·rw[hge x h1]at hx;rw[hge y h2]at hy;cases hx;simp only[Option.some.injEq]at hy;omega
 ·rw[hb j (hR j hj)];exact⟨_,z9e (hR j hj)⟩
 ·rw[hb j (hR j hj)]at hjc;exact e0r hn hjc (hl c (List.mem_of_getElem? hjc))
theorem c8p{σ:List Nat}{n b j:Nat}(hj:a3w σ b=some j):a0s σ n j=some b:=by have h:=a1h hj;have hl:=(List.getElem?_eq_some_iff.1 h).1;unfold a0s;rw[show Nat.blt j σ.length=true by rw[Nat.blt_eq];exact hl];exact h
theorem c1q(run:List AV→a04→Option (AV×a04))(args:List AV)(H:a04)(S:List Nat)(h1:∀b∈a0a args,b∈S)(h2:∀b∈S,∀c∈a0k (a01 H b),c∈S)(h3:∀b∈S,b<H.length)
 (hn:(a0a args).length+(S.map λb=>(a0k (a01 H b)).length).sum<1000000) :
 ∃σ:List Nat,Reached H (a0a args) σ∧(∀b∈σ,b<H.length)∧∀v H1,run (args.map (ren (a3w σ))) (a19 H σ (a3w σ))=some (v,H1)→
  a1i run args H=some (ren (a0s σ H.length) v,a0u σ H.length H1 0 H++(H1.drop σ.length).map (Option.map (a0e (a0s σ H.length))),σ):=by
 have hr:=b4y (H:=H) (init:=a0a args) S h1 h2 hn;have hlt:∀b∈a1t H 1000000 (a0a args) [],b<H.length:=λb hb=>h3 b (hr.least (·∈S) h1 h2 b hb);refine⟨_,hr,hlt,λv H1 hrun=>?_⟩;exact a18 run args H rfl (a6z hr.nodup) (by rw[List.all_eq_true];intro b hb;simpa using hlt b hb) rfl rfl hrun
end Go.Ax
/- AxTab2: a table that a call has been given: heads of loops and calls that write it. -/
namespace Go.Ax
section
variable {H H1:a04}{a b q:Nat}{ids:Nat→Nat}{w:Nat}{fo:List (List (BitVec 64))}{fr:Int}
mutual
theorem b2c{m:Nat}{π:Nat→Option Nat}(hπ:∀c,c<m→π c=some c):∀(v:AV),(∀c∈refs v,c<m)→ren π v=v
 |.ptr b i o,h=>by simp only[ren,hπ b (h b (by simp[refs]))]
 |.slice b o l c,h=>by simp only[ren,hπ b (h b (by simp[refs]))]
 |.map b,h=>by simp only[ren,hπ b (h b (by simp[refs]))]
 |.yfn b,h=>by simp only[ren,hπ b (h b (by simp[refs]))]
 |.func fn fs cs,h=>by simp only[refs,List.mem_append]at h;simp only[ren,a4n hπ fs (λc hc=>h c (.inl hc)),a4n hπ cs (λc hc=>h c (.inr hc))]
 |.iface t x,h=>by simp only[refs]at h;simp only[ren,b2c hπ x h]
 |.agg cs,h=>by simp only[refs]at h;simp only[ren,a4n hπ cs h]
 |.tuple cs,h=>by simp only[refs]at h;simp only[ren,a4n hπ cs h]
 |.junk,_|.bool _,_|.int ..,_|.str _,_|.nilptr,_|.nilslice,_|.nilmap,_|.nilfunc,_|.nilifc,_|.iptr _,_|.islice ..,_|.imap ..,_|.iset _,_=>rfl
theorem a4n{m:Nat}{π:Nat→Option Nat}(hπ:∀c,c<m→π c=some c):∀(l:List AV),(∀c∈a0a l,c<m)→b6h π l=l
 | [],_=>rfl
 |v::vs,h=>by simp only[a0a,List.mem_append]at h;simp only[b6h,b2c hπ v (λc hc=>h c (.inl hc)),a4n hπ vs (λc hc=>h c (.inr hc))]
end
theorem a7i{m:Nat}{π:Nat→Option Nat}(hπ:∀c,c<m→π c=some c)(l:List AV)(h:∀c∈a0a l,c<m):l.map (ren π)=l:=by rw[←a63];exact a4n hπ l h
theorem a7h{m:Nat}{π:Nat→Option Nat}(hπ:∀c,c<m→π c=some c)(o:AObj)(h:∀c∈a0k (some o),c<m):a0e π o=o:=by
 cases o with
 |row k rows=>
  simp only[a0e]
  congr 1
  conv=>rhs;rw[←List.map_id rows]
  refine List.map_congr_left λr hr=>?_;refine a7i hπ r λe he=>h e ?_;simp only[a0k,List.mem_flatMap];exact⟨r,hr,he⟩
 |map ks vs bs cl=>simp only[a0e];rw[a7i hπ ks (λe he=>h e (by simp[a0k,he])),a7i hπ vs (λe he=>h e (by simp[a0k,he]))]
 |siter s p=>rfl
 |uset ks=>rfl
 |miter ks vis arm=>rfl
 |yloop y Fy st=>
  simp only[a0e]
  congr 1
  conv=>rhs;rw[←List.map_id Fy]
  refine List.map_congr_left λx hx=>?_;rw[b2c hπ x.2 λc hc=>h c (c67 hx hc)];rfl
theorem a9s{m:Nat}{π:Nat→Option Nat}(hπ:∀c,c<m→π c=some c):∀F:Frm,(∀c∈a0a (F.map (·.2)),c<m)→b7q π F=F
 | [],_=>rfl
 |(s,v)::F,h=>by simp only[List.map_cons,a0a,List.mem_append]at h;have:=a7i hπ [v] (by simp only[a0a,List.append_nil];exact λc hc=>h c (.inl hc));simp only[List.map_cons,List.map_nil,List.cons.injEq,and_true]at this;rw[c66,this,a9s hπ F (λc hc=>h c (.inr hc))]
end
theorem a6w(a b:List AV):a0a (a++b)=a0a a++a0a b:=by
 induction a with
 |nil=>rfl
 |cons v a ih=>simp only[List.cons_append,a0a,ih,List.append_assoc]
end Go.Ax
/- AxLow: a loop's head over blocks that all stood before the call and refer to nothing. -/
namespace Go.Ax
theorem c30{H H1:a04}(hl:H1.length=H.length)(h:∀b,b<H.length→a01 H1 b=a01 H b):H1=H:=by apply List.ext_getElem hl;intro b h1 h2;have:=h b h2;unfold a01 at this;rw[z9e h1,z9e h2]at this;exact this
theorem e1v{keep:List Nat}{F F':Frm}{H:a04}(hk:a1l keep F=F')(hF:∀b∈a0a (F'.map (·.2)),b<H.length)(hn:(a0a (F'.map (·.2))).length<1000)(hH:∀b,a0k (a01 H b)=[]):gcD H.length keep F H=some (F',H):=by
 subst hk;have hsum:((List.range H.length).map λb=>(a0k (a01 H b)).length).sum=0:=by
  have:((List.range H.length).map λb=>(a0k (a01 H b)).length)=List.replicate H.length 0:=by rw[←List.length_range (n:=H.length),←List.map_const',List.length_range];exact List.map_congr_left λb _=>by rw[hH];rfl
  rw[this];simp
 have hfl:(H.take H.length).flatMap a0k=[]:=by rw[List.take_length,List.flatMap_eq_nil_iff];intro o ho;obtain⟨b,hb⟩:=List.mem_iff_getElem?.1 ho;have:=hH b;unfold a01 at this;rw[hb]at this;exact this
 obtain⟨R,π,H1,h1,hg,hl⟩:=b99 (m:=H.length) (keep:=keep) (F:=F) (H:=H) (Nat.le_refl _) (List.range H.length) (λb hb=>List.mem_range.2 (hF b hb)) (λb _ c hc=>by rw[hH]at hc;simp at hc) (λb _ c hc=>by rw[hH]at hc;simp at hc) (by rw[hsum,hfl];simp only[List.length_nil];omega);have hlen:H1.length=H.length:=by have:=hg.len [] (λb hR hb=>by have:=hg.least (λb=>b<H.length) hF (λb _ c hc=>by rw[hH]at hc;simp at hc) (λb _ c hc=>by rw[hH]at hc;simp at hc) b hR;omega);simp only[List.length_nil,Nat.add_zero]at this;omega
 rw[h1,a9s hg.low _ hF];have:H1=H:=c30 hlen λb hb=>by
  rw[hg.heap b b (hg.low b hb)];cases ho:a01 H b with
  |none=>rfl
  |some o=>have h2:=hH b;rw[ho]at h2;simp only[Option.map_some];rw[a7h hg.low o (λc hc=>by rw[h2]at hc;simp at hc)]
 rw[this]
end Go.Ax
/- AxSts: a slice of sets that are c2s and filled: one block of rows, a block for each set. -/
namespace Go.Ax
def mpV(b:Nat):Option (List Int)→AV|none=>.nilmap|some _=>.map b
def a5c(ids:Nat→Nat)(cs:List (Option (List Int))):List (List AV):=cs.mapIdx λj o=>[mpV (ids j) o]
structure Sts(H:a04)(b:Nat)(ids:Nat→Nat)(cs:List (Option (List Int))):Prop where
 top:a01 H b=some (.row 1 (a5c ids cs))
 sub:∀(j:Nat) s,cs[j]?=some (some s)→a01 H (ids j)=some (.uset s)∧ids j≠b
 inj:∀(i j:Nat) s t,cs[i]?=some (some s)→cs[j]?=some (some t)→ids i=ids j→i=j
theorem b2a{ids:Nat→Nat}{cs:List (Option (List Int))}{j:Nat}{o:Option (List Int)}(h:cs[j]?=some o):(a5c ids cs)[j]?=some [mpV (ids j) o]:=by unfold a5c;rw[List.getElem?_mapIdx,h];rfl
theorem a8i(ids:Nat→Nat)(cs:List (Option (List Int))):(a5c ids cs).length=cs.length:=by unfold a5c;simp
theorem d0d(b:Nat)(o:Option (List Int)):refs (mpV b o)=if o=none then[]else[b]:=by cases o<;>rfl
theorem b4u{ids:Nat→Nat}{cs:List (Option (List Int))}{c:Nat}:c∈(a5c ids cs).flatMap a0a↔∃j s,cs[j]?=some (some s)∧c=ids j:=by
 unfold a5c;simp only[List.mem_flatMap];constructor
 ·rintro⟨r,hr,hc⟩
  obtain⟨j,hj⟩:=List.mem_iff_getElem?.1 hr;rw[List.getElem?_mapIdx]at hj;cases hf:cs[j]? with
  |none=>rw[hf]at hj;cases hj
  |some o=>
   rw[hf]at hj;cases hj;cases o with
   |none=>simp[a0a,mpV,refs]at hc
   |some s=>exact⟨j,s,hf,by simpa[a0a,mpV,refs]using hc⟩
 ·rintro⟨j,s,hf,rfl⟩
  refine⟨[mpV (ids j) (some s)],List.mem_iff_getElem?.2 ⟨j,by rw[List.getElem?_mapIdx,hf];rfl⟩,?_⟩;simp[a0a,mpV,refs]
theorem d5v{π:Nat→Option Nat}{b c:Nat}{o:Option (List Int)}(h:∀s,o=some s→π b=some c):ren π (mpV b o)=mpV c o:=by
 cases o with
 |none=>rfl
 |some s=>simp only[mpV,ren,h s rfl]
section
variable {m:Nat}{F:Frm}{H H1:a04}{R:Nat→Prop}{π:Nat→Option Nat}{b:Nat}{ids:Nat→Nat}{cs:List (Option (List Int))}
theorem Sts.ren(hg:Gc m F H R π H1)(h:Sts H b ids cs)(hb:R b):∃b' ids',π b=some b'∧Sts H1 b' ids' cs:=by
 obtain⟨b',hb'⟩:=hg.here b hb;have hsub:∀(j:Nat) s,cs[j]?=some (some s)→π (ids j)=some ((π (ids j)).getD 0):=by intro j s hf;have:R (ids j):=hg.closed b hb _ (by rw[h.top];exact b4u.2 ⟨j,s,hf,rfl⟩);obtain⟨c,hc⟩:=hg.here _ this;rw[hc];rfl
 refine⟨b',λj=>(π (ids j)).getD 0,hb',?_,?_,?_⟩
 ·rw[hg.heap b b' hb',h.top];simp only[Option.map_some,a0e]
  congr 2
  unfold a5c;apply List.ext_getElem?;intro j;simp only[List.getElem?_map,List.getElem?_mapIdx];cases hf:cs[j]? with
  |none=>rfl
  |some o=>simp only[Option.map_some,List.map_cons,List.map_nil,d5v (π:=π) (b:=ids j) (c:=(π (ids j)).getD 0) (o:=o) λs hs=>hsub j s (by rw[hf,hs])]
 ·intro j s hf;have e:=hsub j s hf;obtain⟨h1,h2⟩:=h.sub j s hf;refine⟨?_,?_⟩
  ·rw[hg.heap _ _ e,h1];rfl
  ·intro he;rw[he]at e;exact h2 (hg.inj _ _ _ e hb')
 ·intro i j s t hf hg' e;have e1:=hsub i s hf;have e2:=hsub j t hg';rw[e]at e1;exact h.inj i j s t hf hg' (hg.inj _ _ _ e1 e2)
theorem Sts.gc{keep:List Nat}(h:Sts H b ids cs)(hF:a0a ((a1l keep F).map (·.2))=[b]∨a0a ((a1l keep F).map (·.2))=[b,b])(hn:cs.length<900000) :
 ∃π b' ids' H1,gcD 0 keep F H=some (b7q π (a1l keep F),H1)∧π b=some b'∧Sts H1 b' ids' cs:=by
 obtain⟨S,hS⟩:∃S,S=b::((List.range cs.length).filter λj=>(cs[j]?).any λo=>o.isSome).map ids:=⟨_,rfl⟩
 have hleaf:∀c∈((List.range cs.length).filter λj=>(cs[j]?).any λo=>o.isSome).map ids,a0k (a01 H c)=[]:=by
  intro c hc;obtain⟨j,hj,rfl⟩:=List.mem_map.1 hc;rw[List.mem_filter]at hj;have hjl:j<cs.length:=by simpa using hj.1
  obtain⟨o,hf⟩:∃o,cs[j]?=some o:=⟨_,z9e hjl⟩
  have hne:=hj.2;rw[hf]at hne;cases o with
  |none=>simp at hne
  |some s=>rw[(h.sub j s hf).1];rfl
 have hrow:(a0k (a01 H b)).length≤cs.length:=by
  rw[h.top];show((a5c ids cs).flatMap a0a).length≤_;have:∀(l:List (List AV)),(∀r∈l,(a0a r).length≤1)→(l.flatMap a0a).length≤l.length:=by
   intro l
   induction l with
   |nil=>intro _;simp
   |cons r l ih=>intro hl;have h1:=hl r (by simp);have h2:=ih (λr hr=>hl r (by simp[hr]));simp only[List.flatMap_cons,List.length_append,List.length_cons];omega
  have h2:=this (a5c ids cs) (by
   intro r hr;obtain⟨j,hj⟩:=List.mem_iff_getElem?.1 hr;unfold a5c at hj;rw[List.getElem?_mapIdx]at hj;cases hf:cs[j]? with
   |none=>rw[hf]at hj;cases hj
   |some o=>rw[hf]at hj;cases hj;simp only[a0a,d0d];split<;>simp)
  rw[a8i]at h2;exact h2
 obtain⟨R,π,H1,g1,g2,_⟩:=b99 (m:=0) (keep:=keep) (F:=F) (H:=H) (Nat.zero_le _) S (by intro c hc;rcases hF with hF|hF<;>rw[hF]at hc<;>simp at hc<;>subst hc<;>simp[hS]) (λc hc=>absurd hc (Nat.not_lt_zero c)) (by
  intro c hc d hd;simp only[hS,List.mem_cons]at hc;rcases hc with rfl|hc
  ·rw[h.top]at hd;obtain⟨j,s,hf,rfl⟩:=b4u.1 hd;simp only[hS,List.mem_cons];refine .inr (List.mem_map.2 ⟨j,List.mem_filter.2 ⟨by simpa using(List.getElem?_eq_some_iff.1 hf).1,?_⟩,rfl⟩);rw[hf];rfl
  ·rw[hleaf c hc]at hd;simp at hd) (by
  have hl:(a0a ((a1l keep F).map (·.2))).length≤2:=by rcases hF with hF|hF<;>rw[hF]<;>simp
  have hsum:=b18 _ hleaf;simp only[hS,List.map_cons,List.sum_cons,hsum,List.take_zero,List.flatMap_nil,List.length_nil];omega)
 obtain⟨b',ids',e1,e2⟩:=h.ren g2 (g2.refs b (by rcases hF with hF|hF<;>rw[hF]<;>simp));exact⟨π,b',ids',H1,g1,e1,e2⟩
theorem Sts.new(h:Sts H b ids cs){j:Nat}{s:List Int}{L:a04}{i:Nat}(hj:j<cs.length)(hi:a01 L i=some (.uset s)) :
 Sts ((H.set b (some (.row 1 ((a5c ids cs).set j [.map (H.length+i)]))))++L) b (λk=>if k=j then H.length+i else ids k) (cs.set j (some s)):=by
 have hbl:=a0l h.top;refine⟨?_,?_,?_⟩
 ·rw[a8u hbl,if_pos rfl]
  congr 2
  apply List.ext_getElem?;intro k;unfold a5c;rw[List.getElem?_set,List.length_mapIdx];by_cases hkj:j=k
  ·subst hkj;simp only[if_true,hj];rw[List.getElem?_mapIdx,List.getElem?_set];simp only[if_true,hj,Option.map_some,mpV]
  ·simp only[if_neg hkj];rw[List.getElem?_mapIdx,List.getElem?_mapIdx,List.getElem?_set,if_neg hkj];simp only[if_neg (Ne.symm hkj)]
 ·intro k t hk;rw[List.getElem?_set]at hk;by_cases hkj:j=k
  ·subst hkj;simp only[if_true,hj,Option.some.injEq]at hk;subst hk;simp only[if_true];exact⟨by rw[a1w];exact hi,by omega⟩
  ·rw[if_neg hkj]at hk;simp only[if_neg (Ne.symm hkj)];obtain⟨g1,g2⟩:=h.sub k t hk;exact⟨by rw[a8u (a0l g1),if_neg (Ne.symm g2)];exact g1,g2⟩
 ·intro k k' t t' hk hk' e;rw[List.getElem?_set]at hk hk';by_cases hkj:j=k<;>by_cases hkj':j=k'
  ·omega
  ·subst hkj;simp only[if_neg hkj']at hk';simp only[if_true,if_neg (Ne.symm hkj')]at e;have:=a0l (h.sub k' t' hk').1;omega
  ·subst hkj';simp only[if_neg hkj]at hk;simp only[if_true,if_neg (Ne.symm hkj)]at e;have:=a0l (h.sub k t hk).1;omega
  ·simp only[if_neg hkj]at hk;simp only[if_neg hkj']at hk';simp only[if_neg (Ne.symm hkj),if_neg (Ne.symm hkj')]at e;exact h.inj k k' t t' hk hk' e
theorem Sts.new0(h:Sts H b ids cs){j:Nat}{s:List Int}{L:a04}(hj:j<cs.length) :
 Sts ((H.set b (some (.row 1 ((a5c ids cs).set j [.map H.length]))))++(some (.uset s)::L)) b (λk=>if k=j then H.length else ids k) (cs.set j (some s)):=h.new (i:=0) hj rfl
theorem Sts.put(h:Sts H b ids cs){j:Nat}{s t:List Int}(hj:cs[j]?=some (some s)):Sts (H.set (ids j) (some (.uset t))) b ids (cs.set j (some t)):=by
 have hjl:j<cs.length:=(List.getElem?_eq_some_iff.1 hj).1;obtain⟨g1,g2⟩:=h.sub j s hj;have hil:=a0l g1;refine⟨?_,?_,?_⟩
 ·rw[a0q g2,h.top]
  congr 2
  apply List.ext_getElem?;intro k;unfold a5c;rw[List.getElem?_mapIdx,List.getElem?_mapIdx,List.getElem?_set];by_cases hkj:j=k
  ·subst hkj;rw[hj];simp only[if_true,hjl,Option.map_some,mpV]
  ·rw[if_neg hkj]
 ·intro k t' hk;rw[List.getElem?_set]at hk;by_cases hkj:j=k
  ·subst hkj;simp only[if_true,hjl,Option.some.injEq]at hk;subst hk;exact⟨a1o hil,g2⟩
  ·rw[if_neg hkj]at hk;obtain⟨k1,k2⟩:=h.sub k t' hk;refine⟨?_,k2⟩;rw[a0q,k1];intro e;exact hkj (h.inj j k s t' hj hk e)
 ·intro k k' a a' hk hk' e;rw[List.getElem?_set]at hk hk';have h1:∃a,cs[k]?=some (some a):=by
   by_cases hkj:j=k
   ·subst hkj;exact⟨_,hj⟩
   ·rw[if_neg hkj]at hk;exact⟨_,hk⟩
  have h2:∃a,cs[k']?=some (some a):=by
   by_cases hkj:j=k'
   ·subst hkj;exact⟨_,hj⟩
   ·rw[if_neg hkj]at hk';exact⟨_,hk'⟩
  obtain⟨a1,e1⟩:=h1;obtain⟨a2,e2⟩:=h2;exact h.inj k k' a1 a2 e1 e2 e
theorem Sts.frz{ss:List (List Int)}(h:Sts H b ids (ss.map some))(c:Option Nat):a23 0 true (a3v (a01 H) 0 12) (.slice b 0 ss.length c)=some (.islice (ss.map λs=>[.iset s]) c):=by
 have key:∀(rows:List (List AV)) (out:List (List AV)),rows.length=out.length→(∀(j:Nat) r o,rows[j]?=some r→out[j]?=some o→a4z 0 false (a3v (a01 H) 0 11) r=some o)→b39 0 (a3v (a01 H) 0 11) rows=some out:=by
  intro rows
  induction rows with
  |nil=>intro out hl _;cases out with|nil=>rfl|cons=>simp at hl
  |cons r rows ih=>
   intro out hl hh;cases out with
   |nil=>simp at hl
   |cons o out=>rw[b38,hh 0 r o rfl rfl];simp only[a0h];rw[ih out (by simpa using hl) (λj r o hr ho=>hh (j+1) r o (by simpa using hr) (by simpa using ho))]
 have hlen:(a5c ids (ss.map some)).length=ss.length:=by rw[a8i,List.length_map]
 rw[a8w,decide_eq_false (Nat.not_lt_zero b),cond_false,b07 (eq_true (by omega:0<12)),h.top];simp only[a88,a0h,hlen,List.drop_zero,Nat.zero_add];rw[decide_eq_true (Nat.le_refl _),cond_true,←hlen,List.take_length];rw[key (a5c ids (ss.map some)) (ss.map λs=>[.iset s]) (by rw[hlen,List.length_map])];intro j r o hr ho;rw[List.getElem?_map]at ho;cases hf:ss[j]? with
 |none=>rw[hf]at ho;cases ho
 |some s=>
  rw[hf]at ho;have hc:(ss.map some)[j]?=some (some s):=by rw[List.getElem?_map,hf];rfl
  rw[b2a hc]at hr;cases ho;cases hr;rw[b9a,c36];obtain⟨g1,_⟩:=h.sub j s hc;simp only[mpV];rw[d6j,decide_eq_false (Nat.not_lt_zero _),cond_false,c7q (by omega) g1];rfl
theorem a7e{keep:List Nat}{P:Frm→a04→Prop}(h:Sts H b ids cs)(hF:a0a ((a1l keep F).map (·.2))=[b]∨a0a ((a1l keep F).map (·.2))=[b,b])(hn:cs.length<900000)
 (hP:∀π b' ids' H1,π b=some b'→Sts H1 b' ids' cs→P (b7q π (a1l keep F)) H1):∃F1 H1,gcD 0 keep F H=some (F1,H1)∧P F1 H1:=by
 obtain⟨π,b',ids',H1,g1,g2,g3⟩:=h.gc hF hn;exact⟨_,H1,g1,hP π b' ids' H1 g2 g3⟩
theorem c9y(H:a04)(n:Nat)(b:Nat)(h:a01 H b=some (.row 1 (List.replicate n [.nilmap]))):Sts H b (λ_=>0) (List.replicate n none):=by
 have hno:∀(j:Nat) s,(List.replicate n (none:Option (List Int)))[j]?≠some (some s):=by intro j s hf;rw[List.getElem?_replicate]at hf;split at hf<;>cases hf
 refine⟨?_,λj s hf=>absurd hf (hno j s),λi j s t hf _=>absurd hf (hno i s)⟩;rw[h]
 congr 2
 apply List.ext_getElem?;intro j;unfold a5c;rw[List.getElem?_mapIdx,List.getElem?_replicate,List.getElem?_replicate];split<;>rfl
end
end Go.Ax
/- AxTwc: a slice of rows that grows, and the row that is to come next: a block of rows, a block for each row that is not empty. -/
namespace Go.Ax
def cpN:Nat→Option Nat:=λ_=>none
structure Twc(H:a04)(b:Nat)(ids:Nat→Nat)(fo:List (List (List AV)))(cur:List (List AV)):Prop where
 top:fo≠[]→a01 H b=some (.row 1 (a25 ids cpN fo))
 sub:∀(j:Nat) (f:List (List AV)),(fo++[cur])[j]?=some f→f≠[]→a01 H (ids j)=some (.row 1 f)∧(fo≠[]→ids j≠b)
 inj:∀(i j:Nat) (f g:List (List AV)),(fo++[cur])[i]?=some f→(fo++[cur])[j]?=some g→f≠[]→g≠[]→ids i=ids j→i=j
 flat:∀f∈fo++[cur],FlatR f
def c6h(b:Nat)(fo:List (List (List AV))):AV:=match fo with|[]=>.nilslice|_::r=>.slice b 0 (r.length+1) none
theorem a8l(b:Nat)(fo:List (List (List AV))):refs (c6h b fo)=if fo=[]then[]else[b]:=by cases fo<;>rfl
theorem c2m(b:Nat):c6h b [] = .nilslice:=by rfl
theorem b6l(b:Nat){fo:List (List (List AV))}(h:fo≠[]):c6h b fo = .slice b 0 fo.length none:=by cases fo with|nil=>exact absurd rfl h|cons=>rfl
theorem b70(b:Nat)(f:List (List AV)):refs (grV b f)=if f=[]then[]else[b]:=by cases f<;>rfl
theorem b1e{π:Nat→Option Nat}{b c:Nat}{fo:List (List (List AV))}(h:fo≠[]→π b=some c):ren π (c6h b fo)=c6h c fo:=by
 cases fo with
 |nil=>rfl
 |cons a r=>simp only[c6h,ren,h (by simp)]
theorem d6f{π:Nat→Option Nat}{b c:Nat}{f:List (List AV)}(h:f≠[]→π b=some c):ren π (grV b f)=grV c f:=by
 cases f with
 |nil=>rfl
 |cons a r=>simp only[grV,ren,h (by simp)]
section
variable {H H1:a04}{b:Nat}{ids:Nat→Nat}{fo:List (List (List AV))}{cur:List (List AV)}
theorem Twc.init(H:a04):Twc H 0 (λ_=>0) [] []:=by
 have hno:∀(j:Nat) (f:List (List AV)),([]++[([]:List (List AV))])[j]?=some f→f=[]:=by
  intro j f hf;cases j with
  |zero=>simpa using hf.symm
  |succ j=>simp at hf
 refine⟨λh=>absurd rfl h,λj f hf hne=>absurd (hno j f hf) hne,λi j f g hf _ hne=>absurd (hno i f hf) hne,λf hf=>?_⟩;simp at hf;subst hf;exact FlatR.nil
theorem Twc.curAt(h:Twc H b ids fo cur)(hc:cur≠[]):a01 H (ids fo.length)=some (.row 1 cur)∧(fo≠[]→ids fo.length≠b):=h.sub fo.length cur (by simp) hc
theorem Twc.fl(h:Twc H b ids fo cur):FlatR cur:=h.flat cur (by simp)
def Twc.blocks(b:Nat)(ids:Nat→Nat)(fo:List (List (List AV)))(cur:List (List AV)):List Nat:=(if fo=[]then[]else[b])++((List.range (fo.length+1)).filter λj=>((fo++[cur])[j]?).any λf=>!f.isEmpty).map ids
theorem Twc.head{keep:List Nat}{F:Frm}{P:Frm→a04→Prop}(h:Twc H b ids fo cur)(hF:a0a ((a1l keep F).map (·.2))=refs (c6h b fo)++refs (grV (ids fo.length) cur))(hn:fo.length<900000)
 (hP:∀π b' ids' H1,(fo≠[]→π b=some b')→(cur≠[]→π (ids fo.length)=some (ids' fo.length))→Twc H1 b' ids' fo cur→P (b7q π (a1l keep F)) H1):∃F1 H1,gcD 0 keep F H=some (F1,H1)∧P F1 H1:=by
 have hleaf:∀c∈((List.range (fo.length+1)).filter λj=>((fo++[cur])[j]?).any λf=>!f.isEmpty).map ids,a0k (a01 H c)=[]:=by
  intro c hc;obtain⟨j,hj,rfl⟩:=List.mem_map.1 hc;rw[List.mem_filter]at hj;obtain⟨f,hf⟩:∃f,(fo++[cur])[j]?=some f:=⟨_,z9e (by simpa using hj.1)⟩
  have hne:=hj.2;rw[hf]at hne;rw[(h.sub j f hf (λe=>by rw[e]at hne;simp at hne)).1];exact a0m (h.flat f (List.mem_of_getElem? hf))
 have hmem:∀(j:Nat) (f:List (List AV)),(fo++[cur])[j]?=some f→f≠[]→ids j∈((List.range (fo.length+1)).filter λj=>((fo++[cur])[j]?).any λf=>!f.isEmpty).map ids:=by
  intro j f hf hne;refine List.mem_map.2 ⟨j,List.mem_filter.2 ⟨?_,?_⟩,rfl⟩
  ·have:=(List.getElem?_eq_some_iff.1 hf).1;simpa using this
  ·rw[hf];cases f with|nil=>exact absurd rfl hne|cons=>rfl
 have hsub:∀(j:Nat) (f:List (List AV)),fo[j]?=some f→(fo++[cur])[j]?=some f:=λj f hf=>by rw[List.getElem?_append_left (List.getElem?_eq_some_iff.1 hf).1];exact hf
 have hrow:fo≠[]→(a0k (a01 H b)).length≤fo.length:=by
  intro hfo;rw[h.top hfo];show((a25 ids cpN fo).flatMap a0a).length≤_;have:∀(l:List (List AV)),(∀r∈l,(a0a r).length≤1)→(l.flatMap a0a).length≤l.length:=by
   intro l
   induction l with
   |nil=>intro _;simp
   |cons r l ih=>intro hl;have h1:=hl r (by simp);have h2:=ih (λr hr=>hl r (by simp[hr]));simp only[List.flatMap_cons,List.length_append,List.length_cons];omega
  have h2:=this (a25 ids cpN fo) (by
   intro r hr;obtain⟨j,hj⟩:=List.mem_iff_getElem?.1 hr;unfold a25 at hj;rw[List.getElem?_mapIdx]at hj;cases hf:fo[j]? with
   |none=>rw[hf]at hj;cases hj
   |some f=>rw[hf]at hj;cases hj;simp only[a0a,b19];split<;>simp)
  rw[a3l]at h2;exact h2
 have hin:∀c∈refs (c6h b fo)++refs (grV (ids fo.length) cur),c∈Twc.blocks b ids fo cur:=by
  intro c hc;unfold Twc.blocks;rw[a8l,b70]at hc;rw[List.mem_append]at hc⊢;rcases hc with hc|hc
  ·exact .inl hc
  ·by_cases hcur:cur=[]
   ·rw[if_pos hcur]at hc;simp at hc
   ·rw[if_neg hcur,List.mem_singleton]at hc;subst hc;exact .inr (hmem _ cur (by simp) hcur)
 obtain⟨R,π,H1,g1,g2,_⟩:=b99 (m:=0) (keep:=keep) (F:=F) (H:=H) (Nat.zero_le _) (Twc.blocks b ids fo cur) (by rw[hF];exact hin) (λc hc=>absurd hc (Nat.not_lt_zero c)) (by
  intro c hc d hd;unfold Twc.blocks at hc⊢;rw[List.mem_append]at hc⊢;rcases hc with hc|hc
  ·by_cases hfo:fo=[]
   ·rw[if_pos hfo]at hc;simp at hc
   ·rw[if_neg hfo,List.mem_singleton]at hc;subst hc;rw[h.top hfo]at hd;obtain⟨j,f,hf,hne,rfl⟩:=a7g.1 hd;exact .inr (hmem j f (hsub j f hf) hne)
  ·rw[hleaf c hc]at hd;simp at hd) (by
  have hl:(a0a ((a1l keep F).map (·.2))).length≤2:=by rw[hF,a8l,b70];split<;>split<;>simp
  have hz:=b18 _ hleaf;unfold Twc.blocks;rw[List.map_append,List.sum_append,hz];simp only[List.take_zero,List.flatMap_nil,List.length_nil];by_cases hfo:fo=[]
  ·rw[if_pos hfo];simp;omega
  ·rw[if_neg hfo];have:=hrow hfo;simp;omega)
 have hRb:fo≠[]→R b:=λhfo=>g2.refs b (by rw[hF,a8l,if_neg hfo];simp);have hRs:∀(j:Nat) (f:List (List AV)),(fo++[cur])[j]?=some f→f≠[]→R (ids j):=by
  intro j f hf hne;by_cases hj:j<fo.length
  ·have hfo:fo≠[]:=λe=>by rw[e]at hj;simp at hj
   rw[List.getElem?_append_left hj]at hf;exact g2.closed b (hRb hfo) _ (by rw[h.top hfo];exact a7g.2 ⟨j,f,hf,hne,rfl⟩)
  ·have hjl:=(List.getElem?_eq_some_iff.1 hf).1;simp only[List.length_append,List.length_singleton]at hjl;obtain rfl:j=fo.length:=by omega
   rw[List.getElem?_append_right (Nat.le_refl _)]at hf;simp only[Nat.sub_self,List.getElem?_cons_zero,Option.some.injEq]at hf;subst hf;exact g2.refs _ (by rw[hF,b70,if_neg hne];simp)
 have hs:∀(j:Nat) (f:List (List AV)),(fo++[cur])[j]?=some f→f≠[]→π (ids j)=some ((π (ids j)).getD 0):=by intro j f hf hne;obtain⟨c,hc⟩:=g2.here _ (hRs j f hf hne);rw[hc];rfl
 have hb':fo≠[]→π b=some ((π b).getD 0):=λhfo=>by obtain⟨c,hc⟩:=g2.here _ (hRb hfo);rw[hc];rfl
 refine⟨_,H1,g1,hP π ((π b).getD 0) (λj=>(π (ids j)).getD 0) H1 hb' (λhcur=>hs fo.length cur (by simp) hcur) ⟨?_,?_,?_,h.flat⟩⟩
 ·intro hfo;rw[g2.heap b _ (hb' hfo),h.top hfo];simp only[Option.map_some,a0e]
  congr 2
  unfold a25;apply List.ext_getElem?;intro j;simp only[List.getElem?_map,List.getElem?_mapIdx];cases hf:fo[j]? with
  |none=>rfl
  |some f=>simp only[Option.map_some,List.map_cons,List.map_nil,c5s (hs j f (hsub j f hf))]
 ·intro j f hf hne;have e:=hs j f hf hne;obtain⟨h1,h2⟩:=h.sub j f hf hne;refine⟨?_,?_⟩
  ·rw[g2.heap _ _ e,h1];simp only[Option.map_some,a0e,a02 π (h.flat f (List.mem_of_getElem? hf))]
  ·intro hfo he;have hb:=hb' hfo;rw[he]at e;exact h2 hfo (g2.inj _ _ _ e hb)
 ·intro i j f g hf hg' hne hne' e;have e1:=hs i f hf hne;have e2:=hs j g hg' hne';rw[e]at e1;exact h.inj i j f g hf hg' hne hne' (g2.inj _ _ _ e1 e2)
theorem Twc.push(h:Twc H b ids fo cur){x:List AV}{n:Nat}(hx:a0a x=[])(hn:H.length≤n)(h2:a01 H1 n=some (.row 1 (cur++[x])))
 (h3:∀c,c<H.length→(cur≠[]→c≠ids fo.length)→a01 H1 c=a01 H c):Twc H1 b (λi=>if i=fo.length then n else ids i) fo (cur++[x]):=by
 have hat:∀(j:Nat) (f:List (List AV)),(fo++[cur++[x]])[j]?=some f→(j=fo.length∧f=cur++[x])∨(j≠fo.length∧fo[j]?=some f∧(fo++[cur])[j]?=some f):=by
  intro j f hf;by_cases hj:j<fo.length
  ·rw[List.getElem?_append_left hj]at hf;exact .inr ⟨by omega,hf,by rw[List.getElem?_append_left hj];exact hf⟩
  ·have hjl:=(List.getElem?_eq_some_iff.1 hf).1;simp only[List.length_append,List.length_singleton]at hjl;obtain rfl:j=fo.length:=by omega
   rw[List.getElem?_append_right (Nat.le_refl _)]at hf;simp only[Nat.sub_self,List.getElem?_cons_zero,Option.some.injEq]at hf;exact .inl ⟨rfl,hf.symm⟩
 refine⟨?_,?_,?_,?_⟩
 ·intro hfo;have hb:=h.top hfo;rw[h3 b (a0l hb) (λhc e=>(h.curAt hc).2 hfo e.symm),hb]
  congr 2
  unfold a25;apply List.ext_getElem?;intro j;rw[List.getElem?_mapIdx,List.getElem?_mapIdx];cases hf:fo[j]? with
  |none=>rfl
  |some f=>have:=(List.getElem?_eq_some_iff.1 hf).1;simp only[Option.map_some,if_neg (show j≠fo.length by omega)]
 ·intro j f hf hne;rcases hat j f hf with ⟨rfl,rfl⟩|⟨hj,h4,h5⟩
  ·simp only[if_true];exact⟨h2,λhfo=>by have:=a0l (h.top hfo);omega⟩
  ·simp only[if_neg hj];obtain⟨k1,k2⟩:=h.sub j f h5 hne;refine⟨?_,k2⟩;rw[h3 _ (a0l k1) (λhc e=>hj (h.inj j fo.length f cur h5 (by simp) hne hc e)),k1]
 ·intro i j f g hf hg hne hne' e;rcases hat i f hf with ⟨rfl,rfl⟩|⟨hi,h4,h5⟩<;>rcases hat j g hg with ⟨rfl,rfl⟩|⟨hj,h6,h7⟩
  ·rfl
  ·simp only[if_true,if_neg hj]at e;have:=a0l (h.sub j g h7 hne').1;omega
  ·simp only[if_true,if_neg hi]at e;have:=a0l (h.sub i f h5 hne).1;omega
  ·simp only[if_neg hi,if_neg hj]at e;exact h.inj i j f g h5 h7 hne hne' e
 ·intro f hf;rw[List.mem_append,List.mem_singleton]at hf;rcases hf with hf|rfl
  ·exact h.flat f (by simp[hf])
  ·exact h.fl.append (FlatR.cons hx FlatR.nil)
theorem Twc.next(h:Twc H b ids fo cur){n:Nat}(hn:H.length≤n)(h2:a01 H1 n=some (.row 1 (a25 ids cpN fo++[[slV (ids fo.length) none cur]])))
 (h3:∀c,c<H.length→(fo≠[]→c≠b)→a01 H1 c=a01 H c):Twc H1 n ids (fo++[cur]) []:=by
 have hat:∀(j:Nat) (f:List (List AV)),(fo++[cur]++[[]])[j]?=some f→f≠[]→(fo++[cur])[j]?=some f:=by
  intro j f hf hne;by_cases hj:j<(fo++[cur]).length
  ·rw[List.getElem?_append_left hj]at hf;exact hf
  ·rw[List.getElem?_append_right (by omega)]at hf;have:=List.mem_of_getElem? hf;simp at this;exact absurd this hne
 refine⟨?_,?_,?_,?_⟩
 ·intro _;rw[h2]
  congr 2
  unfold a25;rw[List.mapIdx_append];simp[cpN]
 ·intro j f hf hne;obtain⟨k1,k2⟩:=h.sub j f (hat j f hf hne) hne;have hl:=a0l k1;exact⟨by rw[h3 _ hl k2,k1],λ_=>by omega⟩
 ·intro i j f g hf hg hne hne' e;exact h.inj i j f g (hat i f hf hne) (hat j g hg hne') hne hne' e
 ·intro f hf;rw[List.mem_append,List.mem_singleton]at hf;rcases hf with hf|rfl
  ·exact h.flat f hf
  ·exact FlatR.nil
theorem Twc.two(h:Twc H b ids fo [])(hfo:fo≠[]):Two H b 1 ids cpN fo:=by
 have hsub:∀(j:Nat) (f:List (List AV)),fo[j]?=some f→(fo++[[]])[j]?=some f:=λj f hf=>by rw[List.getElem?_append_left (List.getElem?_eq_some_iff.1 hf).1];exact hf
 exact⟨h.top hfo,λj f hf hne=>by obtain⟨k1,k2⟩:=h.sub j f (hsub j f hf) hne;exact⟨k1,k2 hfo⟩,λi j f g hf hg hne hne' e=>h.inj i j f g (hsub i f hf) (hsub j g hg) hne hne' e,λf hf=>h.flat f (by simp[hf])⟩
end
theorem b9s(b:Nat)(f:List (List AV)):(grV b f).cells=[grV b f]:=by cases f<;>rfl
theorem b0l(b:Nat)(f:List (List AV)):(grV b f).storable=true:=by cases f<;>rfl
theorem c2w(b:Nat)(f:List (List AV)):(grV b f).isJunk=false:=by cases f<;>rfl
theorem b4k(b:Nat)(f:List (List AV)):a0g (grV b f)=refs (grV b f):=by cases f<;>rfl
end Go.Ax
/- AxLog: the look at a drawn region's log, the order first. -/
namespace Go.Ax
def a68(all:List Oper)(j:Nat)(y:LogE):Nat→List LogE→Bool
 |_,[]=>true
 |0,_::_=>false
 |i+1,x::rest=>(a3m all i j || !(x.clash y))&&a68 all j y i rest
def a8p(all:List Oper):Nat→List LogE→Bool
 |_,[]=>true
 |0,_::_=>false
 |j+1,y::rest=>a68 all j y j rest&&a8p all j rest
theorem b5a(all:List Oper)(j:Nat)(y:LogE):∀(i:Nat) (l:List LogE),a68 all j y i l=logOk.logRow all j y i l
 |_,[]=>by unfold a68 logOk.logRow;rfl
 |0,_::_=>by unfold a68 logOk.logRow;rfl
 |i+1,x::rest=>by unfold a68 logOk.logRow;rw[b5a all j y i rest,Bool.or_comm]
theorem b8t(all:List Oper):∀(i:Nat) (l:List LogE),a8p all i l=logOk all i l
 |_,[]=>by unfold a8p logOk;rfl
 |0,_::_=>by unfold a8p logOk;rfl
 |j+1,y::rest=>by unfold a8p logOk;rw[b8t all j rest,b5a]
theorem xs2{F F1:Frm}{H H1:a04}{Q:a6h}{E:Env}{M:List Fact}{m N:Nat}{g:FuncId}{cur:Nat}{id ops draw}{log:List LogE}(h:a6i E draw N (sem E M) ops.toList ops.toList [] F H=some (F1,H1,log))(hl:(!draw||a8p ops.toList log.length log)=true)(hq:Q .normal F1 H1):Wp (cx E M m N g cur) (.region id ops draw) F H Q:=xs h (by rw[←b8t];exact hl) hq
def c5g(all:List Oper)(j:Nat)(y:LogE):List LogE→Prop
 | []=>True
 |x::rest=>(a3m all rest.length j=true∨x.clash y=false)∧c5g all j y rest
def d4d(all:List Oper):List LogE→Prop
 | []=>True
 |y::rest=>c5g all rest.length y rest∧d4d all rest
theorem b1i{all:List Oper}:d4d all []:=by unfold d4d;trivial
theorem a8o{all:List Oper}{y:LogE}{rest:List LogE}(h1:c5g all rest.length y rest)(h2:d4d all rest):d4d all (y::rest):=by unfold d4d;exact⟨h1,h2⟩
theorem b1c{all:List Oper}{j:Nat}{y:LogE}:c5g all j y []:=by unfold c5g;trivial
theorem b1b{all:List Oper}{j:Nat}{y x:LogE}{rest:List LogE}(h1:a3m all rest.length j=true)(h2:c5g all j y rest):c5g all j y (x::rest):=by unfold c5g;exact⟨.inl h1,h2⟩
theorem b1d{all:List Oper}{j:Nat}{y x:LogE}{rest:List LogE}(h1:x.clash y=false)(h2:c5g all j y rest):c5g all j y (x::rest):=by unfold c5g;exact⟨.inr h1,h2⟩
theorem c63{all:List Oper}{j:Nat}{y:LogE}:∀{l:List LogE},c5g all j y l→a68 all j y l.length l=true
 | [],_=>by unfold a68;rfl
 |x::rest,h=>by
  rw[List.length_cons];unfold a68;rw[c63 h.2,Bool.and_true];rcases h.1 with h1|h1
  ·rw[h1,Bool.true_or]
  ·rw[h1];simp
theorem c75{all:List Oper}:∀{l:List LogE},d4d all l→a8p all l.length l=true
 | [],_=>by unfold a8p;rfl
 |y::rest,h=>by rw[List.length_cons];unfold a8p;rw[c75 h.2,Bool.and_true];exact c63 h.1
theorem xs3{F F1:Frm}{H H1:a04}{Q:a6h}{E:Env}{M:List Fact}{m N:Nat}{g:FuncId}{cur:Nat}{id ops draw}{log:List LogE}(h:a6i E draw N (sem E M) ops.toList ops.toList [] F H=some (F1,H1,log))(hl:d4d ops.toList log)(hq:Q .normal F1 H1):Wp (cx E M m N g cur) (.region id ops draw) F H Q:=xs2 h (by rw[c75 hl];simp) hq
theorem a95{x y:LogE}(h1:∀a∈x.keys,a∉y.needs)(h2:∀a∈x.keys,a∉y.keys)(h3:∀a∈x.needs,a∉y.keys):x.clash y=false:=by
 have hm:∀l k:List Nat,(∀a∈l,a∉k)→b2q l k=false:=by
  intro l k h;unfold b2q;rw[List.any_eq_false];intro a ha;have:=h a ha;rw[Bool.not_eq_true];cases hc:a0v k a with
  |false=>rfl
  |true=>exact absurd (a1x.1 hc) this
 unfold LogE.clash;rw[hm _ _ h1,hm _ _ h2,hm _ _ h3];rfl
end Go.Ax
namespace Go.Ax
theorem d4f{F:Frm}{H:a04}{Q:a6h}{E:Env}{M:List Fact}{m N:Nat}{g:FuncId}{cur:Nat}{id ops}(R:Frm→a04→Prop)(h:∃F1 H1 log,a6i E false N (sem E M) ops.toList ops.toList [] F H=some (F1,H1,log)∧R F1 H1)(hq:∀F1 H1,R F1 H1→Q .normal F1 H1):Wp (cx E M m N g cur) (.region id ops false) F H Q:=by obtain⟨F1,H1,log,h1,h3⟩:=h;exact xs h1 rfl (hq _ _ h3)
theorem b54{draw:Bool}{E:Env}{M:List Fact}{N:Nat}{ops:List Oper}{F F1:Frm}{H H1:a04}{log:List LogE}{R:Frm→a04→Prop}(h1:a6i E draw N (sem E M) ops ops [] F H=some (F1,H1,log))(h3:R F1 H1):∃F1 H1 log,a6i E draw N (sem E M) ops ops [] F H=some (F1,H1,log)∧R F1 H1:=⟨_,_,_,h1,h3⟩
end Go.Ax
/- AxRf: loops over functions, as conditions on their ends; their rounds. -/
namespace Go.Ax
theorem d15(H:a04):((List.range H.length).map λb=>(a0k (a01 H b)).length).sum=(H.flatMap a0k).length:=by
 have:((List.range H.length).map λb=>(a0k (a01 H b)).length)=H.map λo=>(a0k o).length:=by apply List.ext_getElem (by simp);intro b h1 h2;simp only[List.length_map,List.length_range]at h1;simp only[List.getElem_map,List.getElem_range];unfold a01;rw[z9e h1];rfl
 rw[this,List.length_flatMap]
theorem c7l{keep:List Nat}{F F':Frm}{H:a04}{m:Nat}(hm:m=H.length)(hk:a1l keep F=F')(hF:∀b∈a0a (F'.map (·.2)),b<H.length)(hn:(a0a (F'.map (·.2))).length<1000)(hH:∀b,∀c∈a0k (a01 H b),c<H.length)(hs:(H.flatMap a0k).length<100000):gcD m keep F H=some (F',H):=by
 subst hk;subst hm;have hfl:(H.take H.length).flatMap a0k=H.flatMap a0k:=by rw[List.take_length]
 obtain⟨R,π,H1,h1,hg,hl⟩:=b99 (m:=H.length) (keep:=keep) (F:=F) (H:=H) (Nat.le_refl _) (List.range H.length) (λb hb=>List.mem_range.2 (hF b hb)) (λb _ c hc=>List.mem_range.2 (hH b c hc)) (λb _ c hc=>List.mem_range.2 (hH b c hc)) (by rw[d15,hfl];omega);have hlen:H1.length=H.length:=by have:=hg.len [] (λb hR hb=>by have:=hg.least (λb=>b<H.length) hF (λb _ c hc=>hH b c hc) (λb _ c hc=>hH b c hc) b hR;omega);simp only[List.length_nil,Nat.add_zero]at this;omega
 rw[h1,a9s hg.low _ hF];have:H1=H:=c30 hlen λb hb=>by
  rw[hg.heap b b (hg.low b hb)];cases ho:a01 H b with
  |none=>rfl
  |some o=>simp only[Option.map_some];rw[a7h hg.low o (λc hc=>hH b c (by rw[ho];exact hc))]
 rw[this]
def rfQ(Q:a6h)(F:Frm)(H:a04):Option YSt→Prop
 |some .ready=>Q .normal F H
 |some (.done none)=>Q .ret F H
 |some (.done (some id))=>Q (.exit id) F H
 |_=>False
theorem d4g{E:Env}{M:List Fact}{m N:Nat}{g:FuncId}{cur:Nat}{keep:List Nat}{f:Operand}{ps:Array Nat}{asg body:Code}{F:Frm}{H H2:a04}{Q:a6h}{g':FuncId}{fs cs:List AV}{y:Nat}{v:AV}{s:List Nat}
 (hk:E.keep g cur=keep)(hf:opv E F f = .func (.func g') fs cs)(hy:yOf keep=some y)(hfn:((E.fn g').isSome && !E.ext g')=true)
 (hc:a1i (sem E M g') (fs++[.yfn H.length]++cs) (H++[some (.yloop y (a1l keep F) .ready)])=some (v,H2,s))
 (hq:rfQ Q F (H2.set H.length none) (d8d H2 H.length)):Wp (cx E M m N g cur) (.rangeFunc f ps asg body) F H Q:=by
 subst hk;cases hst:d8d H2 H.length with
 |none=>rw[hst]at hq;exact hq.elim
 |some st=>
  rw[hst]at hq;cases st with
  |busy=>exact hq.elim
  |ready=>exact⟨.normal,F,H2.set H.length none,⟨0,λlf _ R k=>by simp only[a2t,cx,hf,hy,hfn,cond_true,hc,hst]⟩,hq⟩
  |done j=>
   cases j with
   |none=>exact⟨.ret,F,H2.set H.length none,⟨0,λlf _ R k=>by simp only[a2t,cx,hf,hy,hfn,cond_true,hc,hst]⟩,hq⟩
   |some id=>exact⟨.exit id,F,H2.set H.length none,⟨0,λlf _ R k=>by simp only[a2t,cx,hf,hy,hfn,cond_true,hc,hst]⟩,hq⟩
def ryE(b:Nat)(r:AV×a04):a6h:=λe _ H2=>match e with
 |.normal=>(c26 H2 b .busy .ready).map (λH=>(AV.bool true,H))=some r
 |.ret=>(c26 H2 b .busy (.done none)).map (λH=>(AV.bool false,H))=some r
 |.exit id=>(c26 H2 b .busy (.done (some id))).map (λH=>(AV.bool false,H))=some r
def ryA(x:Cx)(b:Nat)(body:Code)(r:AV×a04):a6h:=λe F H=>match e with
 |.normal=>∃H1,c26 H b .ready .busy=some H1∧Wp x body F H1 (ryE b r)
 |_=>False
theorem b24{E:Env}{M:List Fact}{b y:Nat}{vs:List AV}{H:a04}{F:Frm}{ri:RInfo}{r:AV×a04}(hno:∀x∈M,x.g≠yId)(hfn:E.fn yId=none)(hb:a01 H b=some (.yloop y F .ready))(hr:E.G.rnd y=some ri)
 (hl:(Nat.beq vs.length ri.ps.length&&ri.ps.all (Nat.blt · ri.N))=true){m:Nat}(hm:H.length=m)
 (h:Wp (cx E M m ri.N ri.fid 0) ri.asg (b23 F ri.ps vs) H (ryA (cx E M m ri.N ri.fid 0) b ri.body r))(hp:E.prim yId (.yfn b::vs)=none:=by rfl):sem E M yId (.yfn b::vs) H=some r:=by
 subst hm;obtain⟨e,F',H',⟨n1,h1⟩,h2⟩:=b7w _ h;cases e with
 |exit id=>exact h2.elim
 |ret=>exact h2.elim
 |normal=>
  obtain⟨H1,h3,h4⟩:=h2;obtain⟨e,F2,H2,⟨n2,h5⟩,h6⟩:=b7w _ h4;refine c5v hno (max n1 n2) ?_;unfold a5b;have hph:c49 E yId (.yfn b::vs) H=none:=by
   unfold c49;cases H with
   |nil=>exact hp
   |cons a r=>rfl
  rw[hph,hfn];simp only;have hyb:Nat.beq yId yId=true:=by simp
  rw[hyb];simp only[cond_true];unfold a62;simp only[hb,hr,hl,cond_true];refine(h1 _ (Nat.le_max_left _ _) _ _).trans ?_;simp only[h3];refine(h5 _ (Nat.le_max_right _ _) _ _).trans ?_;cases e with
  |normal=>exact h6
  |ret=>exact h6
  |exit id=>exact h6
theorem d4y{x:Cx}{b:Nat}{body:Code}{r:AV×a04}{F:Frm}{H H1:a04}(h1:c26 H b .ready .busy=some H1)(h2:Wp x body F H1 (ryE b r)):ryA x b body r .normal F H:=⟨H1,h1,h2⟩
theorem d01{b:Nat}{r:AV×a04}{F:Frm}{H2 H3:a04}(h1:c26 H2 b .busy .ready=some H3)(h2:(AV.bool true,H3)=r):ryE b r .normal F H2:=by show(c26 H2 b .busy .ready).map _=_;rw[h1,←h2];rfl
@[go_sem] theorem a9n(F:Frm)(t:Nat)(ts:List Nat)(v:AV)(vs:List AV):b23 F (t::ts) (v::vs)=b23 (a2w F (some t) v) ts vs:=by rfl
@[go_sem] theorem b22(F:Frm):b23 F [] []=F:=by rfl
theorem c25{E:Env}{draw:Bool}{call:CallF}{b:Nat}{args:List AV}{H H':a04}{v:AV}{σ:List Nat}(h:a1i (call yId) (.yfn b::args) H=some (v,H',σ))(hl:H'.length=H.length):a0d E draw call (.yfn b) args H=some (v,H',σ):=by
 have hb:Nat.ble H.length H'.length=true:=by rw[hl,Nat.ble_eq];exact Nat.le_refl _
 simp only[a0d,h,hb,Bool.not_true,Bool.and_false,cond_false]
@[go_sem] theorem d5e(y:Nat)(F:List (Nat×AV))(st:YSt):a0k (some (.yloop y F st))=a8k F:=by rfl
@[go_sem] theorem e0p:a8k []=[]:=by rfl
@[go_sem] theorem d8p(s:Nat)(v:AV)(r:List (Nat×AV)):a8k ((s,v)::r)=refs v++a8k r:=by rfl
@[go_sem] theorem d3k(π:Nat→Option Nat)(y:Nat)(F:List (Nat×AV))(st:YSt):a0e π (.yloop y F st) = .yloop y (b7q π F) st:=by rfl
@[go_sem] theorem e43(b:Nat):refs (.yfn b)=[b]:=by rfl
theorem c3i{E:Env}{draw:Bool}{call:CallF}{g:FuncId}{fs cs as args:List AV}{H:a04}(hx:E.ext g=false)(hf:(E.fn g).isSome=true)(he:fs++as++cs=args){v:AV}{H':a04}{σ:List Nat}
 (h:a1i (call g) args H=some (v,H',σ))(hl:H.length≤H'.length):a0d E draw call (.func (.func g) fs cs) as H=some (v,H',σ):=by
 have hb:Nat.ble H.length H'.length=true:=by rw[Nat.ble_eq];exact hl
 simp only[a0d,hx,hf,he,h,hb,cond_true,cond_false,Bool.not_true,Bool.and_false]
theorem d26(n b:Nat):a0s [] n b=some (n+b):=by simp[a0s,Nat.blt];rfl
@[go_sem] theorem e89(k k':IntKind)(a b:Int):d7q (.int k a) [.int k' b]=some (.int k (if b<a then b else a)):=by rfl
end Go.Ax
/- AxGw: a flat block and a slice of rows that grow together. -/
namespace Go.Ax
section
variable {H H1:a04}{R:Nat→Prop}{π:Nat→Option Nat}{w b k:Nat}{ids:Nat→Nat}{cp:Nat→Option Nat}{ws:List (List AV)}{fo:List (List (List AV))}
theorem Two.mv(hg:Mv H R π H1)(h:Two H b k ids cp fo)(hb:R b):∃b' ids',π b=some b'∧Two H1 b' k ids' cp fo∧∀(j:Nat) (f:List (List AV)),fo[j]?=some f→f≠[]→π (ids j)=some (ids' j):=by
 obtain⟨b',hb'⟩:=hg.here b hb;have hR:∀(j:Nat) (f:List (List AV)),fo[j]?=some f→f≠[]→R (ids j):=λj f hf hne=>hg.closed b hb _ (by rw[h.top];exact a7g.2 ⟨j,f,hf,hne,rfl⟩);have hsub:∀(j:Nat) (f:List (List AV)),fo[j]?=some f→f≠[]→π (ids j)=some ((π (ids j)).getD 0):=by intro j f hf hne;obtain⟨c,hc⟩:=hg.here _ (hR j f hf hne);rw[hc];rfl
 refine⟨b',λj=>(π (ids j)).getD 0,hb',⟨?_,?_,?_,h.flat⟩,hsub⟩
 ·rw[hg.heap b b' hb hb',h.top];simp only[Option.map_some,a0e]
  congr 2
  unfold a25;apply List.ext_getElem?;intro j;simp only[List.getElem?_map,List.getElem?_mapIdx];cases hf:fo[j]? with
  |none=>rfl
  |some f=>simp only[Option.map_some,List.map_cons,List.map_nil,c5s (hsub j f hf)]
 ·intro j f hf hne;have e:=hsub j f hf hne;obtain⟨h1,h2⟩:=h.sub j f hf hne;refine⟨?_,?_⟩
  ·rw[hg.heap _ _ (hR j f hf hne) e,h1];simp only[Option.map_some,a0e,a02 π (h.flat f (List.mem_of_getElem? hf))]
  ·intro he;rw[he]at e;exact h2 (hg.inj _ _ _ e hb')
 ·intro i j f g hf hg' hne hne' e;have e1:=hsub i f hf hne;have e2:=hsub j g hg' hne';rw[e]at e1;exact h.inj i j f g hf hg' hne hne' (hg.inj _ _ _ e1 e2)
structure Gw(H:a04)(w b:Nat)(ids:Nat→Nat)(cp:Nat→Option Nat)(ws:List (List AV))(fo:List (List (List AV))):Prop where
 out:a01 H w=some (.row 2 ws)
 flat:FlatR ws
 two:Two H b 1 ids cp fo
 wb:w≠b
 wi:∀(j:Nat) (f:List (List AV)),fo[j]?=some f→f≠[]→ids j≠w
def a6m(b:Nat)(ids:Nat→Nat)(fo:List (List (List AV))):List Nat:=b::((List.range fo.length).filter λj=>(fo[j]?).any λf=>!f.isEmpty).map ids
theorem b7z{j:Nat}{f:List (List AV)}(hf:fo[j]?=some f)(hne:f≠[]):ids j∈a6m b ids fo:=by unfold a6m;refine List.mem_cons_of_mem _ (List.mem_map.2 ⟨j,List.mem_filter.2 ⟨by simpa using(List.getElem?_eq_some_iff.1 hf).1,?_⟩,rfl⟩);rw[hf];cases f with|nil=>exact absurd rfl hne|cons=>rfl
theorem a8c{c:Nat}(h:c∈a6m b ids fo):c=b∨∃j f,fo[j]?=some f∧f≠[]∧c=ids j:=by
 unfold a6m at h;rcases List.mem_cons.1 h with h|h
 ·exact .inl h
 ·obtain⟨j,hj,rfl⟩:=List.mem_map.1 h;rw[List.mem_filter]at hj;obtain⟨f,hf⟩:∃f,fo[j]?=some f:=⟨_,z9e (by simpa using hj.1)⟩
  have:=hj.2;rw[hf]at this;exact .inr ⟨j,f,hf,by intro e;rw[e]at this;simp at this,rfl⟩
theorem Two.closed(h:Two H b k ids cp fo):∀c∈a6m b ids fo,∀d∈a0k (a01 H c),d∈a6m b ids fo:=by
 intro c hc d hd;rcases a8c hc with rfl|⟨j,f,hf,hne,rfl⟩
 ·rw[h.top]at hd;obtain⟨j,f,hf,hne,rfl⟩:=a7g.1 hd;exact b7z hf hne
 ·rw[(h.sub j f hf hne).1,a0m (h.flat f (List.mem_of_getElem? hf))]at hd;simp at hd
theorem Two.cost(h:Two H b k ids cp fo):((a6m b ids fo).map λc=>(a0k (a01 H c)).length).sum≤fo.length:=by
 have hz:((((List.range fo.length).filter λj=>(fo[j]?).any λf=>!f.isEmpty).map ids).map λc=>(a0k (a01 H c)).length).sum=0:=b18 _ (by
  intro c hc;obtain⟨j,hj,rfl⟩:=List.mem_map.1 hc;rw[List.mem_filter]at hj;obtain⟨f,hf⟩:∃f,fo[j]?=some f:=⟨_,z9e (by simpa using hj.1)⟩
  have:=hj.2;rw[hf]at this;rw[(h.sub j f hf (by intro e;rw[e]at this;simp at this)).1];exact a0m (h.flat f (List.mem_of_getElem? hf)))
 unfold a6m;rw[List.map_cons,List.sum_cons,hz,Nat.add_zero,h.top];show((a25 ids cp fo).flatMap a0a).length≤_;have:∀(l:List (List AV)),(∀r∈l,(a0a r).length≤1)→(l.flatMap a0a).length≤l.length:=by
  intro l
  induction l with
  |nil=>intro _;simp
  |cons r l ih=>intro hl;have h1:=hl r (by simp);have h2:=ih (λr hr=>hl r (by simp[hr]));simp only[List.flatMap_cons,List.length_append,List.length_cons];omega
 have h2:=this (a25 ids cp fo) (by
  intro r hr;obtain⟨j,hj⟩:=List.mem_iff_getElem?.1 hr;unfold a25 at hj;rw[List.getElem?_mapIdx]at hj;cases hf:fo[j]? with
  |none=>rw[hf]at hj;cases hj
  |some f=>rw[hf]at hj;cases hj;simp only[a0a,b19];split<;>simp)
 rw[a3l]at h2;exact h2
theorem Two.lt(h:Two H b k ids cp fo):∀c∈a6m b ids fo,c<H.length:=by
 intro c hc;rcases a8c hc with rfl|⟨j,f,hf,hne,rfl⟩
 ·exact a0l h.top
 ·exact a0l (h.sub j f hf hne).1
theorem Gw.head{keep:List Nat}{F:Frm}{P:Frm→a04→Prop}(h:Gw H w b ids cp ws fo)(hF:∀c∈a0a ((a1l keep F).map (·.2)),c=w∨c=b)(hw:w∈a0a ((a1l keep F).map (·.2)))(hb:b∈a0a ((a1l keep F).map (·.2)))(hl:(a0a ((a1l keep F).map (·.2))).length≤10)(hn:fo.length<900000)
 (hP:∀π w' b' ids' H1,π w=some w'→π b=some b'→Gw H1 w' b' ids' cp ws fo→P (b7q π (a1l keep F)) H1):∃F1 H1,gcD 0 keep F H=some (F1,H1)∧P F1 H1:=by
 have hcost:=h.two.cost;obtain⟨R,π,H1,g1,g2,_⟩:=b99 (m:=0) (keep:=keep) (F:=F) (H:=H) (Nat.zero_le _) (w::a6m b ids fo) (λc hc=>by
  rcases hF c hc with rfl|rfl
  ·simp
  ·simp[a6m]) (λc hc=>absurd hc (Nat.not_lt_zero c)) (by
  intro c hc d hd;rcases List.mem_cons.1 hc with rfl|hc
  ·rw[h.out,a0m h.flat]at hd;simp at hd
  ·exact List.mem_cons_of_mem _ (h.two.closed c hc d hd)) (by
  have e:(a0k (a01 H w)).length=0:=by rw[h.out,a0m h.flat];rfl
  simp only[List.map_cons,List.sum_cons,e,List.take_zero,List.flatMap_nil,List.length_nil];omega)
 have hm:=g2.mv;have hRw:=g2.refs w hw;obtain⟨w',hw'⟩:=hm.here w hRw;obtain⟨b',ids',e1,e2,e3⟩:=h.two.mv hm (g2.refs b hb);refine⟨_,H1,g1,hP π w' b' ids' H1 hw' e1 ⟨?_,h.flat,e2,?_,?_⟩⟩
 ·rw[g2.heap w w' hw',h.out];simp only[Option.map_some,a0e,a02 π h.flat]
 ·intro e;subst e;exact h.wb (hm.inj _ _ _ hw' e1)
 ·intro j f hf hne e;have:=e3 j f hf hne;rw[e]at this;exact h.wi j f hf hne (hm.inj _ _ _ this hw')
theorem Gw.new(h:Gw H w b ids cp ws fo){w' b' x':Nat}{x:List AV}{z:List AV}{q:Option Nat}(hx:a0a x=[])(hz:a0a z=[])(h1:a01 H1 w'=some (.row 2 (ws++[x])))(h2:a01 H1 b'=some (.row 1 (a25 ids cp fo++[[.slice x' 0 1 q]])))(h3:a01 H1 x'=some (.row 1 [z]))
 (h4:∀c,c<H.length→c≠w→c≠b→a01 H1 c=a01 H c)(l1:H.length≤w')(l2:H.length≤b')(l3:H.length≤x')(n1:w'≠b')(n2:x'≠w')(n3:x'≠b') :
 Gw H1 w' b' (λj=>if j=fo.length then x' else ids j) (λj=>if j=fo.length then q else cp j) (ws++[x]) (fo++[[z]]):=by
 have hat:∀(j:Nat) (f:List (List AV)),(fo++[[z]])[j]?=some f→(j=fo.length∧f=[z])∨(j≠fo.length∧fo[j]?=some f):=by
  intro j f hf;by_cases hj:j<fo.length
  ·rw[List.getElem?_append_left hj]at hf;exact .inr ⟨by omega,hf⟩
  ·have hjl:=(List.getElem?_eq_some_iff.1 hf).1;simp only[List.length_append,List.length_singleton]at hjl;obtain rfl:j=fo.length:=by omega
   rw[List.getElem?_append_right (Nat.le_refl _)]at hf;simp only[Nat.sub_self,List.getElem?_cons_zero,Option.some.injEq]at hf;exact .inl ⟨rfl,hf.symm⟩
 have hold:∀(j:Nat) (f:List (List AV)),fo[j]?=some f→f≠[]→a01 H1 (ids j)=some (.row 1 f)∧ids j<H.length:=by intro j f hf hne;obtain⟨g1,g2⟩:=h.two.sub j f hf hne;have hl:=a0l g1;exact⟨by rw[h4 _ hl (h.wi j f hf hne) g2,g1],hl⟩
 refine⟨h1,h.flat.append (FlatR.cons hx FlatR.nil),⟨?_,?_,?_,?_⟩,n1,?_⟩
 ·rw[h2]
  congr 2
  unfold a25;rw[List.mapIdx_append]
  congr 1
  ·apply List.ext_getElem?;intro j;rw[List.getElem?_mapIdx,List.getElem?_mapIdx];cases hf:fo[j]? with
   |none=>rfl
   |some f=>have:=(List.getElem?_eq_some_iff.1 hf).1;simp only[Option.map_some,if_neg (show j≠fo.length by omega)]
  ·simp[slV]
 ·intro j f hf hne;rcases hat j f hf with ⟨rfl,rfl⟩|⟨hj,hf'⟩
  ·simp only[if_true];exact⟨h3,n3⟩
  ·simp only[if_neg hj];obtain⟨g1,g2⟩:=hold j f hf' hne;exact⟨g1,by omega⟩
 ·intro i j f g hf hg hne hne' e;rcases hat i f hf with ⟨rfl,rfl⟩|⟨hi,hf'⟩<;>rcases hat j g hg with ⟨rfl,rfl⟩|⟨hj,hg'⟩
  ·rfl
  ·simp only[if_true,if_neg hj]at e;have:=(hold j g hg' hne').2;omega
  ·simp only[if_true,if_neg hi]at e;have:=(hold i f hf' hne).2;omega
  ·simp only[if_neg hi,if_neg hj]at e;exact h.two.inj i j f g hf' hg' hne hne' e
 ·intro f hf;rw[List.mem_append,List.mem_singleton]at hf;rcases hf with hf|rfl
  ·exact h.two.flat f hf
  ·exact FlatR.cons hz FlatR.nil
 ·intro j f hf hne;rcases hat j f hf with ⟨rfl,rfl⟩|⟨hj,hf'⟩
  ·simp only[if_true];exact n2
  ·simp only[if_neg hj];have:=(hold j f hf' hne).2;omega
theorem Gw.first{w' b' x':Nat}{x:List AV}{z:List AV}{q:Option Nat}(hx:a0a x=[])(hz:a0a z=[])(h1:a01 H1 w'=some (.row 2 [x]))(h2:a01 H1 b'=some (.row 1 [[.slice x' 0 1 q]]))(h3:a01 H1 x'=some (.row 1 [z]))(n1:w'≠b')(n2:x'≠w')(n3:x'≠b') :
 Gw H1 w' b' (λ_=>x') (λ_=>q) [x] [[z]]:=by
 have hat:∀(j:Nat) (f:List (List AV)),[[z]][j]?=some f→j=0∧f=[z]:=by
  intro j f hf;cases j with
  |zero=>simp at hf;exact⟨rfl,hf.symm⟩
  |succ j=>simp at hf
 refine⟨h1,FlatR.cons hx FlatR.nil,⟨h2,λj f hf hne=>?_,λi j f g hf hg _ _ _=>?_,λf hf=>?_⟩,n1,λj f _ _=>n2⟩
 ·obtain⟨rfl,rfl⟩:=hat j f hf;exact⟨h3,n3⟩
 ·rw[(hat i f hf).1,(hat j g hg).1]
 ·rw[List.mem_singleton]at hf;subst hf;exact FlatR.cons hz FlatR.nil
theorem Gw.upd(h:Gw H w b ids cp ws fo){k n:Nat}{f:List (List AV)}{x z:List AV}(hf:fo[k]?=some f)(hx:a0a x=[])(hz:a0a z=[])(hn:H.length≤n)
 (h1:a01 H1 w=some (.row 2 (ws.set k x)))(h2:a01 H1 b=some (.row 1 ((a25 ids cp fo).set k [.slice n 0 (f.length+1) none])))(h3:a01 H1 n=some (.row 1 (f++[z])))
 (h4:∀c,c<H.length→c≠w→c≠b→(f≠[]→c≠ids k)→a01 H1 c=a01 H c) :
 Gw H1 w b (λi=>if i=k then n else ids i) (λi=>if i=k then none else cp i) (ws.set k x) (fo.set k (f++[z])):=by
 have hkl:k<fo.length:=(List.getElem?_eq_some_iff.1 hf).1;have hwl:=a0l h.out;have hbl:=a0l h.two.top;have hat:∀(j:Nat) (g:List (List AV)),(fo.set k (f++[z]))[j]?=some g→(j=k∧g=f++[z])∨(j≠k∧fo[j]?=some g):=by
  intro j g hg;rw[List.getElem?_set]at hg;by_cases hj:k=j
  ·subst hj;simp only[if_true,hkl,Option.some.injEq]at hg;exact .inl ⟨rfl,hg.symm⟩
  ·rw[if_neg hj]at hg;exact .inr ⟨Ne.symm hj,hg⟩
 have hold:∀(j:Nat) (g:List (List AV)),j≠k→fo[j]?=some g→g≠[]→a01 H1 (ids j)=some (.row 1 g)∧ids j<H.length:=by intro j g hj hg hne;obtain⟨g1,g2⟩:=h.two.sub j g hg hne;have hl:=a0l g1;exact⟨by rw[h4 _ hl (h.wi j g hg hne) g2 (λhfn e=>hj (h.two.inj j k g f hg hf hne hfn e)),g1],hl⟩
 refine⟨h1,λr hr=>?_,⟨?_,?_,?_,?_⟩,h.wb,?_⟩
 ·rcases List.mem_or_eq_of_mem_set hr with h'|rfl
  ·exact h.flat r h'
  ·exact hx
 ·rw[h2]
  congr 2
  apply List.ext_getElem?;intro i;unfold a25;rw[List.getElem?_set,List.length_mapIdx];by_cases hik:k=i
  ·subst hik;simp only[if_true,hkl];rw[List.getElem?_mapIdx,List.getElem?_set];simp only[if_true,hkl,Option.map_some];rw[b63,d10]
  ·rw[if_neg hik,List.getElem?_mapIdx,List.getElem?_mapIdx,List.getElem?_set,if_neg hik];simp only[if_neg (Ne.symm hik)]
 ·intro j g hg hne;rcases hat j g hg with ⟨rfl,rfl⟩|⟨hj,hg'⟩
  ·simp only[if_true];exact⟨h3,by omega⟩
  ·simp only[if_neg hj];exact⟨(hold j g hj hg' hne).1,(h.two.sub j g hg' hne).2⟩
 ·intro i j g g' hg hg' hne hne' e;rcases hat i g hg with ⟨rfl,rfl⟩|⟨hi,hgi⟩<;>rcases hat j g' hg' with ⟨rfl,rfl⟩|⟨hj,hgj⟩
  ·rfl
  ·simp only[if_true,if_neg hj]at e;have:=(hold j g' hj hgj hne').2;omega
  ·simp only[if_true,if_neg hi]at e;have:=(hold i g hi hgi hne).2;omega
  ·simp only[if_neg hi,if_neg hj]at e;exact h.two.inj i j g g' hgi hgj hne hne' e
 ·intro g hg;rcases List.mem_or_eq_of_mem_set hg with hg|rfl
  ·exact h.two.flat g hg
  ·exact(h.two.flat f (List.mem_of_getElem? hf)).append (FlatR.cons hz FlatR.nil)
 ·intro j g hg hne;rcases hat j g hg with ⟨rfl,rfl⟩|⟨hj,hg'⟩
  ·simp only[if_true];omega
  ·simp only[if_neg hj];exact h.wi j g hg' hne
theorem Gw.clip(h:Gw H w b ids cp ws fo){j c:Nat}{f:List (List AV)}(hf:fo[j]?=some f)(h1:a01 H1 b=some (.row 1 ((a25 ids cp fo).set j [slV (ids j) (some c) f])))
 (h3:∀c,c≠b→a01 H1 c=a01 H c):Gw H1 w b ids (λi=>if i=j then some c else cp i) ws fo:=
 ⟨by rw[h3 w h.wb,h.out],h.flat,h.two.clip hf h1 h3,h.wb,h.wi⟩
end
theorem c4y{E:Env}{d:Bool}{call:CallF}{g:FuncId}{H:a04}{w b:Nat}{ids:Nat→Nat}{cp:Nat→Option Nat}{ws:List (List AV)}{fo:List (List (List AV))}{n:Nat}{c c':Option Nat}(hx:E.ext g=false)(hf:(E.fn g).isSome=true)
 (h:Gw H w b ids cp ws fo)(hn:fo.length≤1000)
 (hrun:∀(H0:a04) (b':Nat) (R:List (List AV)),a01 H0 b'=some (.row 1 R)→(∀x,∀y∈a0k (a01 H0 x),y<H0.length)→call g [.slice b' 0 n c] H0=some (.slice b' 0 n c',H0)) :
 ∃H' σ ids',a0d E d call (.func (.func g) [] []) [.slice b 0 n c] H=some (.slice b 0 n c',H',σ)∧Gw H' w b ids' cp ws fo∧H'.length=H.length:=by
 have hrf:a0a ([]++[AV.slice b 0 n c]++[])=[b]:=rfl;have hcost:=h.two.cost;obtain⟨σ,hr,hlt,hgo⟩:=c1q (call g) ([]++[AV.slice b 0 n c]++[]) H (a6m b ids fo) (by rw[hrf];simp[a6m]) h.two.closed h.two.lt (by rw[hrf];simp only[List.length_cons,List.length_nil];omega);rw[hrf]at hr;have hsub:∀x∈σ,x∈a6m b ids fo:=hr.least (·∈a6m b ids fo) (by simp[a6m]) (λx hx y hy=>h.two.closed x hx y hy);have hmv:=d0c hr;have hbσ:=hr.start b (by simp);obtain⟨b',ids',e1,e2,e3⟩:=h.two.mv hmv hbσ;have hslen:(a19 H σ (a3w σ)).length=σ.length:=by simp[a19]
 have hall:∀x,x<(a19 H σ (a3w σ)).length→x∈a6m b' ids' fo:=by
  intro j hj;rw[hslen]at hj;obtain⟨x,hx⟩:∃x,σ[j]?=some x:=⟨_,z9e hj⟩
  have hpi:a3w σ x=some j:=a3c hr.nodup hx;rcases a8c (hsub x (List.mem_of_getElem? hx))with rfl|⟨i,f,hf,hne,rfl⟩
  ·rw[hpi]at e1;cases e1;simp[a6m]
  ·have:=e3 i f hf hne;rw[hpi]at this;cases this;exact b7z hf hne
 have hlow:∀x,∀y∈a0k (a01 (a19 H σ (a3w σ)) x),y<(a19 H σ (a3w σ)).length:=by
  intro x y hy;by_cases hxl:x<(a19 H σ (a3w σ)).length
  ·exact e2.lt y (e2.closed x (hall x hxl) y hy)
  ·have:a01 (a19 H σ (a3w σ)) x=none:=by unfold a01;rw[List.getElem?_eq_none (by omega)];rfl
   rw[this]at hy;simp[a0k]at hy
 have hbl:=a0l e2.top;have hc1:=hrun _ b' _ e2.top hlow;have hra:([]++[AV.slice b 0 n c]++[]).map (ren (a3w σ))=[.slice b' 0 n c]:=by simp only[List.nil_append,List.append_nil,List.map_cons,List.map_nil,ren,e1]
 have hgo:=hgo (.slice b' 0 n c') _ (by rw[hra];exact hc1);have hd:((a19 H σ (a3w σ)).drop σ.length)=[]:=List.drop_eq_nil_of_le (by rw[hslen];exact Nat.le_refl _);have hbk0:a0s σ H.length b'=some b:=c8p e1;rw[hd,List.map_nil,List.append_nil]at hgo;simp only[ren,hbk0]at hgo;have hbk:=d5u (H:=H) (H1:=a19 H σ (a3w σ)) hr.nodup hlt (λj=>j<σ.length) (λj hj=>hj) (by intro j hj x hx;have:=hlow j x hx;rw[hslen]at this;exact this);obtain⟨b2,ids2,f1,f2,f3⟩:=e2.mv hbk (by rw[hslen]at hbl;exact hbl);rw[hbk0]at f1;cases f1;have hlen:(a0u σ H.length (a19 H σ (a3w σ)) 0 H).length=H.length:=b2g 0 H;have hids:∀(j:Nat) (f:List (List AV)),fo[j]?=some f→f≠[]→ids2 j=ids j:=by intro j f hf hne;have h1:=f3 j f hf hne;rw[c8p (e3 j f hf hne)]at h1;exact(z9o h1).symm
 have hwσ:w∉σ:=by
  intro hw;rcases a8c (hsub w hw)with e|⟨j,f,hf,hne,e⟩
  ·exact h.wb e
  ·exact h.wi j f hf hne e.symm
 refine⟨_,σ,ids2,?_,⟨?_,h.flat,f2,h.wb,λj f hf hne=>by rw[hids j f hf hne];exact h.wi j f hf hne⟩,hlen⟩
 ·have hb:Nat.ble H.length (a0u σ H.length (a19 H σ (a3w σ)) 0 H).length=true:=by rw[hlen,Nat.ble_eq];exact Nat.le_refl _
  simp only[List.append_nil]at hgo;simp only[a0d,hx,hf,List.append_nil,hgo,hb,cond_true,cond_false,Bool.not_true,Bool.and_false]
 ·have hput:a01 (a0u σ H.length (a19 H σ (a3w σ)) 0 H) w=a01 H w:=by
   unfold a01;rw[a4e,Nat.zero_add];have:σ.idxOf? w=none:=by rw[List.idxOf?_eq_none_iff];exact hwσ
   rw[this];cases H[w]?<;>rfl
  rw[hput,h.out]
end Go.Ax
