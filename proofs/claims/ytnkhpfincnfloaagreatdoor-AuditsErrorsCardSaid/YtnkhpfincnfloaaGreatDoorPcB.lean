/- PcWord: words of 64 values as plain data. Plain definitions. -/
import Derived.Test.YtnkhpfincnfloaaGreatDoorPcP
import Derived.Test.YtnkhpfincnfloaaGreatDoorAxD
set_option linter.unusedSimpArgs false
set_option linter.unusedVariables false
namespace Go.Pc
open Go.Ax
structure W where
 one:BitVec 64
 zero:BitVec 64
def W.enc(w:W):List AV:=[u64 w.one,u64 w.zero]
attribute [go_sem] W.enc
def wRead(w:W):W:=⟨w.one &&& ~~~(w.one&&&w.zero),w.zero &&& ~~~(w.one&&&w.zero)⟩
def faninLo(k:Nat):Nat:=[0,0,0,1,1,2,2,2,2,2,2,3,2,1,1,0].getD k 0
def faninHi(k:Nat):Nat:=[0,0,0,1,1,16,16,16,16,16,16,3,2,16,1,0].getD k 0
def isComb(k:Nat):Bool:=decide (1≤k)&&decide (k≤13)
end Go.Pc
/- PcSim: one cycle of a circuit, over words or over single values; lanes of words are single values. Plain definitions. -/
namespace Go.Pc
open Go.Ax
structure Alg(α:Type) where
 ev:Nat→List α→α
 z:α
 fill:Nat→α
structure Hk(α:Type) where
 net:Nat→α→α
 pin:Nat→Nat→α→α
section
variable {α:Type}(A:Alg α)(nodes:List Nd)(h:Hk α)
def kindAt(nodes:List Nd)(n:Nat):Nat:=(nodes[n]?.map Nd.kind).getD 0
def insAt(nodes:List Nd)(n:Nat):List Nat:=(nodes[n]?.map Nd.ins).getD []
def rdsFrom(n:Nat)(nets:List α):Nat→List Nat→List α
 |_,[]=>[]
 |p,m::r=>h.pin n p (nets.getD m A.z)::rdsFrom n nets (p+1) r
def readsG(nets:List α)(n:Nat):List α:=rdsFrom A h n nets 0 (insAt nodes n)
def stepG(nets:List α)(n:Nat):List α:=nets.set n (h.net n (if kindAt nodes n≠0∧kindAt nodes n≠14 then A.ev (kindAt nodes n) (readsG A nodes h nets n)else nets.getD n A.z))
def hk0:Hk α:=⟨λ_ w=>w,λ_ _ w=>w⟩
end
structure Hom{α β:Type}(A:Alg α)(B:Alg β)(φ:α→β):Prop where
 ev:∀k l,φ (A.ev k l)=B.ev k (l.map φ)
 z:φ A.z=B.z
 fill:∀v,φ (A.fill v)=B.fill v
structure HkHom{α β:Type}(φ:α→β)(h:Hk α)(k:Hk β):Prop where
 net:∀n w,φ (h.net n w)=k.net n (φ w)
 pin:∀n p w,φ (h.pin n p w)=k.pin n p (φ w)
section
variable {α β:Type}{A:Alg α}{B:Alg β}{φ:α→β}(hφ:Hom A B φ){nodes:List Nd}{h:Hk α}{k:Hk β}(hk:HkHom φ h k)
include hφ
include hk
end
/-! ### single values -/
section
variable {j:Nat}(hj:j<64)
include hj
end
/-! ### contradictions -/
/-! ### a circuit -/
structure Sim where
 nodes:List Nd
 ord:List Nat
 ins:List Nat
 sts:List Nat
 outs:List Nat
section
variable {α:Type}(A:Alg α)(S:Sim)
end
end Go.Pc
/- PcWf: the circuits of the statements are valid. Plain. -/
namespace Go.Pc
open Go.Ax
structure Cir.wf(c:Cir):Prop where
 pos:0<c.nodes.length
 len:c.nodes.length≤14
 names:c.names=(List.range c.nodes.length).map nameS
 kind:∀x∈c.nodes,x.kind≤14
 lo:∀x∈c.nodes,faninLo x.kind≤x.ins.length
 hi:∀x∈c.nodes,x.ins.length≤faninHi x.kind
 ins:∀x∈c.nodes,∀m∈x.ins,m<c.nodes.length
 bus:∀x∈c.nodes,x.kind=13→∀m∈x.ins,kindAt c.nodes m=12
 mem:∀x∈c.nodes,x.mem=0∧x.bit=0
 acyc:∀(i:Nat) (x:Nd),c.nodes[i]?=some x→isComb x.kind=true→∀m∈x.ins,m<i
 outs:∀o∈c.outs,o<c.nodes.length
 outl:c.outs.length≤4
theorem ev_kind{k:Nat}(h:k<6):faninLo (5+k)=2∧faninHi (5+k)=16:=by
 have:k=0∨k=1∨k=2∨k=3∨k=4∨k=5:=by omega
 rcases this with rfl|rfl|rfl|rfl|rfl|rfl<;>exact⟨rfl,rfl⟩
structure GateOk(ks:List Nat)(x:Nd):Prop where
 k1:1≤x.kind
 k13:x.kind≤13
 lo:faninLo x.kind≤x.ins.length
 hi:x.ins.length≤faninHi x.kind
 ins:∀m∈x.ins,m<ks.length
 bus:x.kind=13→∀m∈x.ins,ks[m]?=some 12
 mem:x.mem=0∧x.bit=0
theorem tris_get{ks:List Nat}{i:Nat}(h:i<(trisOf ks).length):(trisOf ks).getD i 0<ks.length∧ks[(trisOf ks).getD i 0]?=some 12:=by
 have:(trisOf ks).getD i 0∈trisOf ks:=by rw[List.getD,List.getElem?_eq_getElem h];exact List.getElem_mem h
 exact trisTo_mem this
theorem gate_prop(bus:Bool)(g:GX)(ks:List Nat)(hp:0<ks.length):GateOk ks (gateNd bus g ks):=by
 have a:=Nat.mod_lt g.i0 hp;have b:=Nat.mod_lt g.i1 hp;have d:=Nat.mod_lt g.i2 hp;unfold gateNd;dsimp only;generalize(if bus=true then g.kind%13 else g.kind%9)=kind;split
 ·rename_i h6;obtain⟨e1,e2⟩:=ev_kind h6;split
  ·exact⟨by dsimp only;omega,by dsimp only;omega,by simp[e1],by simp[e2],by simp[a,b,d],by dsimp only;omega,⟨rfl,rfl⟩⟩
  ·exact⟨by dsimp only;omega,by dsimp only;omega,by simp[e1],by simp[e2],by simp[a,b],by dsimp only;omega,⟨rfl,rfl⟩⟩
 split
 ·exact⟨by dsimp only;omega,by dsimp only;omega,by simp[faninLo],by simp[faninHi],by simp[a],by simp,⟨rfl,rfl⟩⟩
 split
 ·exact⟨by dsimp only;omega,by dsimp only;omega,by simp[faninLo],by simp[faninHi],by simp[a,b,d],by simp,⟨rfl,rfl⟩⟩
 split
 ·exact⟨by dsimp only;omega,by dsimp only;omega,by simp[faninLo],by simp[faninHi],by simp[a,b],by simp,⟨rfl,rfl⟩⟩
 split
 ·rename_i h;have t0:=tris_get (Nat.mod_lt g.i0 h.2);split
  ·have t1:=tris_get (Nat.mod_lt (g.i0%(trisOf ks).length+1) h.2);refine⟨by dsimp only;omega,by dsimp only;omega,by simp[faninLo],by simp[faninHi],?_,?_,⟨rfl,rfl⟩⟩
   ·intro m hm;simp only[List.mem_cons,List.not_mem_nil,or_false]at hm;rcases hm with rfl|rfl;exact t0.1;exact t1.1
   ·intro _ m hm;simp only[List.mem_cons,List.not_mem_nil,or_false]at hm;rcases hm with rfl|rfl;exact t0.2;exact t1.2
  ·refine⟨by dsimp only;omega,by dsimp only;omega,by simp[faninLo],by simp[faninHi],?_,?_,⟨rfl,rfl⟩⟩
   ·intro m hm;simp only[List.mem_cons,List.not_mem_nil,or_false]at hm;subst hm;exact t0.1
   ·intro _ m hm;simp only[List.mem_cons,List.not_mem_nil,or_false]at hm;subst hm;exact t0.2
 split
 ·have:g.i0%2=0∨g.i0%2=1:=by omega
  rcases this with h|h<;>rw[h]<;>exact⟨by dsimp only;omega,by dsimp only;omega,by simp[faninLo],by simp[faninHi],by simp,by simp,⟨rfl,rfl⟩⟩
 ·exact⟨by dsimp only;omega,by dsimp only;omega,by simp[faninLo],by simp[faninHi],by simp[a],by simp,⟨rfl,rfl⟩⟩
theorem gN_get(bus:Bool):∀(l:List GX) (ks:List Nat) (i:Nat) (x:Nd),(gN bus ks l)[i]?=some x→∃g,x=gateNd bus g (ks++((gN bus ks l).take i).map Nd.kind)
 | [],ks,i,x,h=>by simp[gN]at h
 |g::l,ks,0,x,h=>by simp only[gN,List.getElem?_cons_zero,Option.some.injEq]at h;exact⟨g,by rw[←h];simp⟩
 |g::l,ks,i+1,x,h=>by simp only[gN,List.getElem?_cons_succ]at h;obtain⟨g',hg⟩:=gN_get bus l _ i x h;exact⟨g',by rw[hg];simp[gN]⟩
theorem CX.dn_len(x:CX):x.dn.length=x.d:=by have:x.d<3:=Nat.mod_lt _ (by omega);unfold CX.dn;rw[List.length_map,List.length_take];simp;omega
theorem CX.nodes_len(x:CX):x.nodes.length=x.n:=by unfold CX.nodes CX.n;rw[List.length_append,List.length_append,List.length_replicate,x.dn_len,gN_length]
theorem CX.dn_kind(x:CX):x.dn.map Nd.kind=List.replicate x.d 14:=by
 have:x.d=0∨x.d=1∨x.d=2:=by have:x.d<3:=Nat.mod_lt _ (by omega);omega
 unfold CX.dn;rcases this with h|h|h<;>rw[h]<;>rfl
theorem CX.base_len(x:CX):x.base.length=x.k+x.d:=by unfold CX.base;simp
theorem CX.kinds(x:CX):x.nodes.map Nd.kind=x.base++(gN x.bus x.base x.gs).map Nd.kind:=by unfold CX.nodes CX.base;rw[List.map_append,List.map_append,List.map_replicate,x.dn_kind];rfl
theorem CX.node_cases(x:CX){i:Nat}{nd:Nd}(h:x.nodes[i]?=some nd):nd=inNd∨(∃v,nd=dffNd (v%x.n))∨GateOk ((x.nodes.map Nd.kind).take i) nd:=by
 unfold CX.nodes at h;by_cases h1:i<x.k
 ·rw[List.append_assoc,List.getElem?_append_left (by simpa using h1),List.getElem?_replicate,if_pos h1]at h;exact .inl (Option.some.inj h).symm
 rw[List.append_assoc,List.getElem?_append_right (by simpa using h1),List.length_replicate]at h;by_cases h2:i-x.k<x.d
 ·rw[List.getElem?_append_left (by rw[x.dn_len];exact h2)]at h;unfold CX.dn at h;rw[List.getElem?_map]at h;cases hv:([x.d0,x.d1].take x.d)[i-x.k]? with
  |none=>rw[hv]at h;cases h
  |some v=>rw[hv]at h;exact .inr (.inl ⟨v,(Option.some.inj h).symm⟩)
 ·rw[List.getElem?_append_right (by rw[x.dn_len];omega),x.dn_len]at h;obtain⟨g,hg⟩:=gN_get _ _ _ _ _ h;refine .inr (.inr ?_);have e:(x.nodes.map Nd.kind).take i=x.base++((gN x.bus x.base x.gs).take (i-x.k-x.d)).map Nd.kind:=by
   rw[x.kinds,List.take_append,List.take_of_length_le (by rw[x.base_len];omega),x.base_len,List.map_take]
   congr 2;omega
  rw[e,hg];exact gate_prop _ _ _ (by
   rw[List.length_append,x.base_len];have:0<x.k:=by unfold CX.k;omega
   omega)
theorem CX.wf(x:CX):x.cir.wf:=by
 have hn:=x.nodes_len;have hk:x.k≤4∧0<x.k:=by unfold CX.k;omega
 have hd:x.d<3:=Nat.mod_lt _ (by omega);have hg:x.gs.length≤8:=by unfold CX.gs;rw[List.length_take];omega
 have hnn:x.n=x.k+x.d+x.gs.length:=rfl;have key:∀nd∈x.nodes,∃i,x.nodes[i]?=some nd∧i<x.n:=by intro nd h;obtain⟨i,hi⟩:=List.mem_iff_getElem?.1 h;exact⟨i,hi,by rw[←hn];exact(List.getElem?_eq_some_iff.1 hi).1⟩
 have hl:∀i,i<x.n→((x.nodes.map Nd.kind).take i).length=i:=λi hi=>by rw[List.length_take,List.length_map,hn];omega
 have hsrc:∀nd∈x.nodes,nd=inNd∨(∃v,nd=dffNd (v%x.n))∨∃i,i<x.n∧GateOk ((x.nodes.map Nd.kind).take i) nd:=by
  intro nd h;obtain⟨i,hi,hlt⟩:=key nd h;rcases x.node_cases hi with h|h|h
  ·exact .inl h
  ·exact .inr (.inl h)
  ·exact .inr (.inr ⟨i,hlt,h⟩)
 refine⟨by show 0<x.nodes.length;omega,by show x.nodes.length≤14;omega,by show x.names=_;rw[show x.cir.nodes=x.nodes from rfl,hn];rfl,?_,?_,?_,?_,?_,?_,?_,?_,?_⟩
 ·intro nd h;rcases hsrc nd h with rfl|⟨v,rfl⟩|⟨i,hi,h⟩
  ·decide
  ·exact Nat.le_refl 14
  ·have:=h.k13;omega
 ·intro nd h;rcases hsrc nd h with rfl|⟨v,rfl⟩|⟨i,hi,h⟩
  ·decide
  ·exact Nat.le_refl 1
  ·exact h.lo
 ·intro nd h;rcases hsrc nd h with rfl|⟨v,rfl⟩|⟨i,hi,h⟩
  ·decide
  ·exact Nat.le_refl 1
  ·exact h.hi
 ·intro nd h m hm;show m<x.nodes.length;rw[hn];rcases hsrc nd h with rfl|⟨v,rfl⟩|⟨i,hi,h⟩
  ·simp[inNd]at hm
  ·simp only[dffNd,List.mem_cons,List.not_mem_nil,or_false]at hm;subst hm;exact Nat.mod_lt _ (by omega)
  ·have:=h.ins m hm;rw[hl i hi]at this;omega
 ·intro nd h h13 m hm;rcases hsrc nd h with rfl|⟨v,rfl⟩|⟨i,hi,h⟩
  ·simp[inNd]at hm
  ·simp[dffNd]at h13
  ·have h1:=h.bus h13 m hm;have h2:=h.ins m hm;rw[hl i hi]at h2;rw[List.getElem?_take,if_pos h2,List.getElem?_map]at h1;show kindAt x.nodes m=12;unfold kindAt;rw[h1];rfl
 ·intro nd h;rcases hsrc nd h with rfl|⟨v,rfl⟩|⟨i,hi,h⟩
  ·exact⟨rfl,rfl⟩
  ·exact⟨rfl,rfl⟩
  ·exact h.mem
 ·intro i nd h hc m hm;have hlt:i<x.n:=by rw[←hn];exact(List.getElem?_eq_some_iff.1 h).1
  rcases x.node_cases h with rfl|⟨v,rfl⟩|h
  ·simp[inNd]at hm
  ·simp[dffNd,isComb]at hc
  ·have:=h.ins m hm;rw[hl i hlt]at this;exact this
 ·intro o ho;show o<x.nodes.length;rw[hn];have ho:o∈x.outN:=ho;unfold CX.outN at ho;simp only[List.mem_append,List.mem_map,List.mem_cons,List.not_mem_nil,or_false]at ho;rcases ho with ⟨a,_,rfl⟩|rfl
  ·exact Nat.mod_lt _ (by omega)
  ·omega
 ·show x.outN.length≤4;unfold CX.outN;simp;omega
end Go.Pc
/- PcFan: which pins read a net. Plain. -/
namespace Go.Pc
open Go.Ax
def lineR(l:Nat×Nat):List AV:=[.int .i64 l.1,.int .i64 l.2]
def cnt(L:List (Nat×Nat))(a:Nat):Nat:=(L.map (·.1)).count a
structure FoOk(nodes:List Nd)(i k:Nat)(fo:List (List (Nat×Nat))):Prop where
 len:fo.length=nodes.length
 num:∀(j:Nat) (L:List (Nat×Nat)),fo[j]?=some L→∀a,cnt L a=if a<i then(insAt nodes a).count j else if a=i then((insAt nodes i).take k).count j else 0
 pin:∀(j:Nat) (L:List (Nat×Nat)),fo[j]?=some L→∀l∈L,l.2<(insAt nodes l.1).length
theorem FoOk.zero(nodes:List Nd):FoOk nodes 0 0 (List.replicate nodes.length []):=by
 refine⟨by simp,λj L h a=>?_,λj L h l hl=>?_⟩
 ·rw[List.getElem?_replicate]at h;split at h
  ·cases h;simp[Pc.cnt]
  ·cases h
 ·rw[List.getElem?_replicate]at h;split at h
  ·cases h;cases hl
  ·cases h
theorem FoOk.step{nodes:List Nd}{i k m:Nat}{fo:List (List (Nat×Nat))}{L:List (Nat×Nat)}(h:FoOk nodes i k fo)(hm:(insAt nodes i)[k]?=some m)(hL:fo[m]?=some L):FoOk nodes i (k+1) (fo.set m (L++[(i,k)])):=by
 refine⟨by rw[List.length_set,h.len],λj L' hj a=>?_,λj L' hj l hl=>?_⟩
 ·have ht:=take_snoc hm;rw[List.getElem?_set]at hj;have hml:m<fo.length:=(List.getElem?_eq_some_iff.1 hL).1;by_cases hmj:m=j
  ·subst hmj;simp only[if_true,hml,Option.some.injEq]at hj;subst hj;have:=h.num m L hL a;have e:Pc.cnt (L++[(i,k)]) a=Pc.cnt L a+if i=a then 1 else 0:=by
    unfold Pc.cnt;rw[List.map_append,List.count_append];by_cases hia:i=a
    ·subst hia;simp
    ·simp[hia,List.count_cons]
   rw[e,this,ht];by_cases h1:a<i
   ·simp[h1];omega
   ·by_cases h2:a=i
    ·subst h2;simp
    ·simp[h1,h2];omega
  ·rw[if_neg hmj]at hj;have:=h.num j L' hj a;rw[this,ht];by_cases h1:a<i
   ·simp[h1]
   ·by_cases h2:a=i
    ·subst h2;simp[List.count_append,List.count_cons,hmj]
    ·simp[h1,h2]
 ·rw[List.getElem?_set]at hj;split at hj
  ·rename_i e;subst e;split at hj
   ·cases hj;rcases List.mem_append.1 hl with hl|hl
    ·exact h.pin _ _ hL l hl
    ·rw[List.mem_singleton]at hl;subst hl;exact(List.getElem?_eq_some_iff.1 hm).1
   ·cases hj
  ·exact h.pin j L' hj l hl
theorem FoOk.next{nodes:List Nd}{i k:Nat}{fo:List (List (Nat×Nat))}(h:FoOk nodes i k fo)(hk:k=(insAt nodes i).length):FoOk nodes (i+1) 0 fo:=by
 refine⟨h.len,λj L hj a=>?_,h.pin⟩;rw[h.num j L hj a];subst hk;rw[List.take_length];by_cases h1:a<i
 ·simp[h1,show a<i+1 by omega]
 ·by_cases h2:a=i
  ·subst h2;simp
  ·simp[h1,h2,show ¬a<i+1 by omega]
theorem insAt_get{nodes:List Nd}{i:Nat}{x:Nd}(h:nodes[i]?=some x):insAt nodes i=x.ins:=by simp[insAt,h]
theorem len_cnt(n:Nat):∀(L:List (Nat×Nat)),(∀l∈L,l.1<n)→L.length=((List.range n).map λa=>cnt L a).sum
 | [],_=>by
  have:∀l:List Nat,(l.map λa=>cnt [] a).sum=0:=by intro l;induction l with|nil=>rfl|cons a l ih=>rw[List.map_cons,List.sum_cons,ih];rfl
  rw[this];rfl
 |x::L,h=>by
  have ih:=len_cnt n L (λl hl=>h l (by simp[hl]));have hx:=h x (by simp);have e:∀a,cnt (x::L) a=cnt L a+if x.1=a then 1 else 0:=λa=>by unfold cnt;rw[List.map_cons,List.count_cons];simp[beq_iff_eq]
  have s:∀(l:List Nat),l.Nodup→(l.map λa=>cnt (x::L) a).sum=(l.map λa=>cnt L a).sum+if x.1∈l then 1 else 0:=by
   intro l
   induction l with
   |nil=>intro _;rfl
   |cons a l ih2=>
    intro hn;rw[List.nodup_cons]at hn;simp only[List.map_cons,List.sum_cons,e a,ih2 hn.2,List.mem_cons];by_cases h1:x.1=a
    ·subst h1;simp[hn.1];omega
    ·simp[h1];omega
  rw[s _ List.nodup_range,if_pos (by simpa using hx),List.length_cons,ih]
theorem FoOk.node{nodes:List Nd}{i k j:Nat}{fo:List (List (Nat×Nat))}{L:List (Nat×Nat)}(h:FoOk nodes i k fo)(hL:fo[j]?=some L)(hi:i≤nodes.length):∀l∈L,l.1<nodes.length:=by
 intro l hl;have hc:=h.num j L hL l.1;have hp:0<cnt L l.1:=by unfold cnt;exact List.count_pos_iff.2 (List.mem_map.2 ⟨l,hl,rfl⟩)
 by_cases h1:l.1<i
 ·omega
 ·rw[if_neg h1]at hc;by_cases h2:l.1=i
  ·rw[if_pos h2]at hc;cases hx:nodes[i]? with
   |none=>simp[insAt,hx]at hc;omega
   |some x=>have:=(List.getElem?_eq_some_iff.1 hx).1;omega
  ·rw[if_neg h2]at hc;omega
theorem FoOk.total{nodes:List Nd}{i k j:Nat}{fo:List (List (Nat×Nat))}{L:List (Nat×Nat)}(h:FoOk nodes i k fo)(hL:fo[j]?=some L)(hn:nodes.length≤14)(hx:∀y∈nodes,y.ins.length≤16)(hi:i≤nodes.length:=by omega):L.length≤224:=by
 have hb:∀a,cnt L a≤16:=by
  intro a;have hins:(insAt nodes a).length≤16:=by
   unfold insAt;cases hx':nodes[a]? with
   |none=>simp
   |some x=>exact hx x (List.mem_of_getElem? hx')
  rw[h.num j L hL a];split
  ·exact Nat.le_trans List.count_le_length hins
  split
  ·rename_i e;subst e;refine Nat.le_trans List.count_le_length ?_;rw[List.length_take];omega
  ·omega
 rw[len_cnt nodes.length L (h.node hL hi)];have s:∀l:List Nat,(l.map λa=>cnt L a).sum≤16*l.length:=by
  intro l
  induction l with
  |nil=>simp
  |cons a l ih=>have:=hb a;simp only[List.map_cons,List.sum_cons,List.length_cons];omega
 have:=s (List.range nodes.length);rw[List.length_range]at this;omega
theorem Cir.wf.insl{c:Cir}(h:c.wf){x:Nd}(hx:x∈c.nodes):x.ins.length≤16:=by
 have k14:=h.kind x hx;have hhi:=h.hi x hx;have:faninHi x.kind≤16:=by
  have hk:x.kind=0∨x.kind=1∨x.kind=2∨x.kind=3∨x.kind=4∨x.kind=5∨x.kind=6∨x.kind=7∨x.kind=8∨x.kind=9∨x.kind=10∨x.kind=11∨x.kind=12∨x.kind=13∨x.kind=14:=by omega
  rcases hk with e|e|e|e|e|e|e|e|e|e|e|e|e|e|e<;>rw[e]<;>decide
 omega
end Go.Pc
/- PcKahn: the order in which nodes become ready. Plain. -/
namespace Go.Pc
open Go.Ax
def pend(nodes:List Nd)(ready:List Nat)(done a:Nat):Nat:=((insAt nodes a).filter λm=>decide (m∉ready.take done)).length
structure Kahn(nodes:List Nd)(left ready:List Nat)(done:Nat)(L:List (Nat×Nat)):Prop where
 ll:left.length=nodes.length
 rn:∀r∈ready,r<nodes.length
 nd:ready.Nodup
 dle:done≤ready.length
 eq:∀a,a<nodes.length→isComb (kindAt nodes a)=true→left.getD a 0+cnt L a=pend nodes ready done a
 nc:∀a,a<nodes.length→isComb (kindAt nodes a)=false→left.getD a 0=0
 zero:∀a,a<nodes.length→(a∈ready↔left.getD a 0=0)
def need(nodes:List Nd)(a:Nat):Nat:=if isComb (kindAt nodes a)then(insAt nodes a).length else 0
def leftTo(nodes:List Nd)(i:Nat):List Nat:=(List.range nodes.length).map λj=>if j<i then need nodes j else 0
def readyTo(nodes:List Nd)(i:Nat):List Nat:=(List.range i).filter λj=>decide (need nodes j=0)
theorem readyTo_succ(nodes:List Nd)(i:Nat):readyTo nodes (i+1)=if need nodes i=0 then readyTo nodes i++[i]else readyTo nodes i:=by unfold readyTo;rw[List.range_succ,List.filter_append];by_cases h:need nodes i=0<;>simp[h]
theorem readyTo_le(nodes:List Nd)(i:Nat):(readyTo nodes i).length≤i:=Nat.le_trans (List.length_filter_le _ _) (by simp)
theorem leftTo_zero(nodes:List Nd):leftTo nodes 0=List.replicate nodes.length 0:=by
 apply List.ext_getElem?;intro j;simp only[leftTo,List.getElem?_map,List.getElem?_replicate,Nat.not_lt_zero,if_false];by_cases h:j<nodes.length
 ·rw[List.getElem?_range h];simp[h]
 ·rw[List.getElem?_eq_none (by simpa using h)];simp[h]
theorem leftTo_get{nodes:List Nd}{i j:Nat}(h:j<nodes.length):(leftTo nodes i)[j]?=some (if j<i then need nodes j else 0):=by simp[leftTo,List.getElem?_range h]
theorem leftTo_succ{nodes:List Nd}{i:Nat}(h:i<nodes.length):(leftTo nodes i).set i (need nodes i)=leftTo nodes (i+1):=by
 apply List.ext_getElem?;intro j;rw[List.getElem?_set];by_cases hj:j<nodes.length
 ·rw[leftTo_get hj,leftTo_get hj];by_cases hij:i=j
  ·subst hij;simp[leftTo,h]
  ·by_cases h2:j<i
   ·simp[hij,h2,show j<i+1 by omega]
   ·simp[hij,h2,show ¬j<i+1 by omega]
 ·have e:∀i,(leftTo nodes i)[j]?=none:=λi=>List.getElem?_eq_none (by simp[leftTo];omega);rw[e,e];have:i≠j:=by omega
  simp[this]
theorem leftTo_same{nodes:List Nd}{i:Nat}(h:i<nodes.length)(h0:need nodes i=0):leftTo nodes i=leftTo nodes (i+1):=by
 rw[←leftTo_succ h];apply List.ext_getElem?;intro j;rw[List.getElem?_set];by_cases hij:i=j
 ·subst hij;rw[leftTo_get h];simp[leftTo,h,h0]
 ·simp[hij]
theorem Kahn.start(nodes:List Nd):Kahn nodes (leftTo nodes nodes.length) (readyTo nodes nodes.length) 0 []:=by
 have hg:∀a,a<nodes.length→(leftTo nodes nodes.length).getD a 0=need nodes a:=by intro a ha;rw[List.getD,leftTo_get ha];simp[ha]
 refine⟨by simp[leftTo],?_,?_,Nat.zero_le _,?_,?_,?_⟩
 ·intro r hr;unfold readyTo at hr;rw[List.mem_filter]at hr;simpa using hr.1
 ·exact List.nodup_range.filter _
 ·intro a ha hc;rw[hg a ha];have e:∀l:List Nat,(l.filter λm=>decide (m∉([]:List Nat)))=l:=λl=>List.filter_eq_self.2 (λm _=>by simp);simp only[need,hc,if_true,pend,cnt,List.map_nil,List.count_nil,List.take_zero,Nat.add_zero];exact(congrArg List.length (e _)).symm
 ·intro a ha hc;rw[hg a ha];simp[need,hc]
 ·intro a ha;rw[hg a ha];unfold readyTo;rw[List.mem_filter];simp[ha]
section
variable {nodes:List Nd}{left ready:List Nat}{done:Nat}{L:List (Nat×Nat)}
theorem cnt_snoc(L:List (Nat×Nat))(a p b:Nat):cnt (L++[(a,p)]) b=cnt L b+if a=b then 1 else 0:=by
 unfold cnt;rw[List.map_append,List.count_append];by_cases hia:a=b
 ·subst hia;simp
 ·simp[hia,List.count_cons]
theorem Kahn.skip(h:Kahn nodes left ready done L){a p:Nat}(hc:isComb (kindAt nodes a)=false):Kahn nodes left ready done (L++[(a,p)]):=by
 refine⟨h.ll,h.rn,h.nd,h.dle,?_,h.nc,h.zero⟩;intro b hb hcb;have:a≠b:=λe=>by subst e;rw[hc]at hcb;cases hcb
 rw[cnt_snoc,if_neg this,Nat.add_zero];exact h.eq b hb hcb
theorem pend_app{ready:List Nat}{done x a:Nat}(h:done≤ready.length):pend nodes (ready++[x]) done a=pend nodes ready done a:=by unfold pend;rw[List.take_append_of_le_length h]
theorem Kahn.pos(h:Kahn nodes left ready done L){a p:Nat}(ha:a<nodes.length)(hc:isComb (kindAt nodes a)=true)(hcnt:cnt (L++[(a,p)]) a≤pend nodes ready done a):0<left.getD a 0:=by have:=h.eq a ha hc;rw[cnt_snoc,if_pos rfl]at hcnt;omega
theorem Kahn.dec(h:Kahn nodes left ready done L){a p:Nat}(ha:a<nodes.length)(hc:isComb (kindAt nodes a)=true)(hcnt:cnt (L++[(a,p)]) a≤pend nodes ready done a) :
 Kahn nodes (left.set a (left.getD a 0-1)) (if left.getD a 0-1=0 then ready++[a]else ready) done (L++[(a,p)]):=by
 have hpos:=h.pos ha hc hcnt;have hal:a<left.length:=by rw[h.ll];exact ha
 have hget:∀b,(left.set a (left.getD a 0-1)).getD b 0=if a=b then left.getD a 0-1 else left.getD b 0:=by
  intro b;simp only[List.getD_eq_getElem?_getD,List.getElem?_set];by_cases hab:a=b
  ·subst hab;simp[hal]
  ·simp[hab]
 have hna:a∉ready:=λhm=>by have:=(h.zero a ha).1 hm;omega
 have hpe:∀b,pend nodes (if left.getD a 0-1=0 then ready++[a]else ready) done b=pend nodes ready done b:=by
  intro b;split
  ·exact pend_app h.dle
  ·rfl
 refine⟨by rw[List.length_set,h.ll],?_,?_,?_,?_,?_,?_⟩
 ·intro r hr;split at hr
  ·simp only[List.mem_append,List.mem_singleton]at hr;rcases hr with hr|rfl
   ·exact h.rn r hr
   ·exact ha
  ·exact h.rn r hr
 ·split
  ·rw[List.nodup_append];refine⟨h.nd,by simp,?_⟩;intro x hx y hy;simp only[List.mem_singleton]at hy;subst hy;exact λe=>hna (e▸hx)
  ·exact h.nd
 ·split
  ·have:=h.dle;simp;omega
  ·exact h.dle
 ·intro b hb hcb;rw[hget,hpe,cnt_snoc];have:=h.eq b hb hcb;by_cases hab:a=b
  ·subst hab;rw[if_pos rfl,if_pos rfl];omega
  ·rw[if_neg hab,if_neg hab,Nat.add_zero];exact this
 ·intro b hb hcb;have:a≠b:=λe=>by subst e;rw[hc]at hcb;cases hcb
  rw[hget,if_neg this];exact h.nc b hb hcb
 ·intro b hb;rw[hget];by_cases hab:a=b
  ·subst hab;rw[if_pos rfl];split
   ·rename_i e;exact⟨λ_=>e,λ_=>by simp⟩
   ·rename_i e;exact⟨λhm=>absurd hm hna,λe'=>absurd e' e⟩
  ·rw[if_neg hab];rw[←h.zero b hb];split
   ·simp[Ne.symm hab]
   ·rfl
theorem count_filter_split(l:List Nat)(S:List Nat)(x:Nat)(hx:x∉S):(l.filter λm=>decide (m∉S)).length=(l.filter λm=>decide (m∉S++[x])).length+l.count x:=by
 induction l with
 |nil=>rfl
 |cons a l ih=>
  simp only[List.filter_cons,List.count_cons];by_cases hax:a=x
  ·subst hax;simp[hx]at ih⊢;omega
  ·by_cases haS:a∈S
   ·simp[haS,hax]at ih⊢;omega
   ·simp[haS,hax]at ih⊢;omega
theorem Kahn.next(h:Kahn nodes left ready done L){x:Nat}(hx:ready[done]?=some x)(hL:∀a,a<nodes.length→cnt L a=(insAt nodes a).count x):Kahn nodes left ready (done+1) []:=by
 have hdl:=(List.getElem?_eq_some_iff.1 hx).1;have ht:=take_snoc hx;have hnx:x∉ready.take done:=by
  intro hm;obtain⟨i,hi⟩:=List.mem_iff_getElem?.1 hm;rw[List.getElem?_take]at hi;split at hi
  case isFalse=>cases hi
  have:=(List.getElem?_inj (by omega) h.nd).1 (hi.trans hx.symm);omega
 refine⟨h.ll,h.rn,h.nd,by omega,?_,h.nc,h.zero⟩;intro a ha hc;have:=h.eq a ha hc;rw[hL a ha]at this;unfold pend at this⊢;rw[ht];rw[count_filter_split _ _ x hnx]at this;simp only[cnt,List.map_nil,List.count_nil];omega
theorem pend_ge{ready:List Nat}{done x a:Nat}(nd:ready.Nodup)(hx:ready[done]?=some x):(insAt nodes a).count x≤pend nodes ready done a:=by
 have hdl:=(List.getElem?_eq_some_iff.1 hx).1;have hnx:x∉ready.take done:=by
  intro hm;obtain⟨i,hi⟩:=List.mem_iff_getElem?.1 hm;rw[List.getElem?_take]at hi;split at hi
  case isFalse=>cases hi
  have:=(List.getElem?_inj (by omega) nd).1 (hi.trans hx.symm);omega
 unfold pend;rw[count_filter_split _ _ x hnx];omega
theorem Kahn.all(h:Kahn nodes left ready ready.length [])(hac:∀(i:Nat) (x:Nd),nodes[i]?=some x→isComb x.kind=true→∀m∈x.ins,m<i):nodes.length≤ready.length:=by
 have key:∀n a,a≤n→a<nodes.length→a∈ready:=by
  intro n
  induction n with
  |zero=>
   intro a han ha;obtain rfl:a=0:=by omega
   rw[h.zero 0 ha];cases hc:isComb (kindAt nodes 0)with
   |false=>exact h.nc 0 ha hc
   |true=>
    obtain⟨x,hx⟩:∃x,nodes[0]?=some x:=⟨_,List.getElem?_eq_getElem ha⟩
    have he:=h.eq 0 ha hc;have hk:kindAt nodes 0=x.kind:=by simp[kindAt,hx]
    rw[hk]at hc;have hi:insAt nodes 0=[]:=by
     simp only[insAt,hx,Option.map_some,Option.getD_some];cases hins:x.ins with
     |nil=>rfl
     |cons m r=>have:=hac 0 x hx hc m (by simp[hins]);omega
    have:pend nodes ready ready.length 0=0:=by simp[pend,hi]
    omega
  |succ n ih=>
   intro a han ha;rw[h.zero a ha];cases hc:isComb (kindAt nodes a)with
   |false=>exact h.nc a ha hc
   |true=>
    obtain⟨x,hx⟩:∃x,nodes[a]?=some x:=⟨_,List.getElem?_eq_getElem ha⟩
    have he:=h.eq a ha hc;have hk:kindAt nodes a=x.kind:=by simp[kindAt,hx]
    rw[hk]at hc;have hi:insAt nodes a=x.ins:=insAt_get hx;have:pend nodes ready ready.length a=0:=by unfold pend;rw[hi,List.take_length,List.length_eq_zero_iff,List.filter_eq_nil_iff];intro m hm;have h1:=hac a x hx hc m hm;have h2:=ih m (by omega) (by omega);simp[h2]
    omega
 have:=len_sub (l:=List.range nodes.length) (T:=ready) List.nodup_range (λa ha=>key a a (Nat.le_refl _) (by simpa using ha));simpa using this
theorem Kahn.bound(h:Kahn nodes left ready done L):ready.length≤nodes.length:=by have:=len_sub h.nd (T:=List.range nodes.length) (λa ha=>by simpa using h.rn a ha);simpa using this
end
end Go.Pc
/- PcPerm: exchanging neighbours. Plain. -/
namespace Go.Pc
end Go.Pc
/- PcReach: which nets a net depends on; faults that are valid. Plain. -/
namespace Go.Pc
open Go.Ax
end Go.Pc
/- PcRun: the simulation, step by step. Plain. -/
namespace Go.Pc
open Go.Ax
section
variable {α:Type}{A:Alg α}{nodes:List Nd}{h:Hk α}
end
end Go.Pc
/- PcLev: levels of nodes; orders in which every node stands behind what it reads. Plain. -/
namespace Go.Pc
open Go.Ax
structure Lev(nodes:List Nd)(lv ready:List Nat)(done:Nat)(L:List (Nat×Nat)):Prop where
 old:∀a,a<nodes.length→isComb (kindAt nodes a)=true→∀m∈insAt nodes a,m∈ready.take done→lv.getD m 0<lv.getD a 0
 now:∀l∈L,isComb (kindAt nodes l.1)=true→∀x,ready[done]?=some x→lv.getD x 0<lv.getD l.1 0
theorem Lev.start(nodes:List Nd)(lv ready:List Nat):Lev nodes lv ready 0 []:=⟨λa _ _ m _ hm=>by simp at hm,λl hl=>by simp at hl⟩
section
variable {nodes:List Nd}{lv left ready:List Nat}{done:Nat}{L:List (Nat×Nat)}
theorem Lev.skip(h:Lev nodes lv ready done L){a p:Nat}(hc:isComb (kindAt nodes a)=false):Lev nodes lv ready done (L++[(a,p)]):=by
 refine⟨h.old,λl hl hcl=>?_⟩;rcases List.mem_append.1 hl with hl|hl
 ·exact h.now l hl hcl
 ·rw[List.mem_singleton.1 hl]at hcl;rw[hc]at hcl;cases hcl
theorem getD_set(lv:List Nat)(a v b:Nat)(ha:a<lv.length):(lv.set a v).getD b 0=if a=b then v else lv.getD b 0:=by
 simp only[List.getD_eq_getElem?_getD,List.getElem?_set];by_cases hab:a=b
 ·subst hab;simp[ha]
 ·simp[hab]
theorem Lev.dec(h:Lev nodes lv ready done L){a p x va vx:Nat}(hx:ready[done]?=some x)(hna:a∉ready)(hva:lv[a]?=some va)(hvx:lv[x]?=some vx){ready':List Nat}(hr:ready'=ready∨ready'=ready++[a]) :
 Lev nodes (lv.set a (max va (vx+1))) ready' done (L++[(a,p)]):=by
 have hal:=(List.getElem?_eq_some_iff.1 hva).1;have hdl:=(List.getElem?_eq_some_iff.1 hx).1;have hxr:x∈ready:=List.mem_of_getElem? hx;have hax:a≠x:=λe=>hna (e▸hxr);have ea:lv.getD a 0=va:=by rw[List.getD,hva];rfl
 have ex:lv.getD x 0=vx:=by rw[List.getD,hvx];rfl
 have ht:ready'.take done=ready.take done:=by
  rcases hr with rfl|rfl
  ·rfl
  ·exact List.take_append_of_le_length (by omega)
 have hx':ready'[done]?=some x:=by
  rcases hr with rfl|rfl
  ·exact hx
  ·rw[List.getElem?_append_left hdl];exact hx
 have up:∀b,lv.getD b 0≤(lv.set a (max va (vx+1))).getD b 0:=by
  intro b;rw[getD_set _ _ _ _ hal];split
  ·rename_i e;subst e;rw[ea];exact Nat.le_max_left _ _
  ·exact Nat.le_refl _
 refine⟨?_,?_⟩
 ·intro b hb hcb m hm hmr;rw[ht]at hmr;have hma:a≠m:=λe=>hna (e▸List.mem_of_mem_take hmr);rw[getD_set _ _ _ m hal,if_neg hma];exact Nat.lt_of_lt_of_le (h.old b hb hcb m hm hmr) (up b)
 ·intro l hl hcl y hy;rw[hx']at hy;cases hy;rw[getD_set _ _ _ x hal,if_neg hax];rcases List.mem_append.1 hl with hl|hl
  ·exact Nat.lt_of_lt_of_le (h.now l hl hcl x hx) (up _)
  ·rw[List.mem_singleton.1 hl,getD_set _ _ _ _ hal,if_pos rfl,ex];exact Nat.lt_of_lt_of_le (Nat.lt_succ_self _) (Nat.le_max_right _ _)
theorem Lev.next(h:Lev nodes lv ready done L){x:Nat}(hx:ready[done]?=some x)(hL:∀a,a<nodes.length→cnt L a=(insAt nodes a).count x):Lev nodes lv ready (done+1) []:=by
 refine⟨?_,λl hl=>by simp at hl⟩;intro a ha hc m hm hmr;rw[take_snoc hx]at hmr;rcases List.mem_append.1 hmr with hmr|hmr
 ·exact h.old a ha hc m hm hmr
 ·rw[List.mem_singleton.1 hmr]at hm⊢;have h1:=hL a ha;have h2:0<(insAt nodes a).count x:=List.count_pos_iff.2 hm;rw[←h1]at h2;unfold Pc.cnt at h2;obtain⟨l,hl,rfl⟩:=List.mem_map.1 (List.count_pos_iff.1 h2);exact h.now l hl hc x hx
def Rises(nodes:List Nd)(lv:List Nat):Prop:=∀a,a<nodes.length→isComb (kindAt nodes a)=true→∀m∈insAt nodes a,m<nodes.length→lv.getD m 0<lv.getD a 0
theorem Lev.all(h:Lev nodes lv ready ready.length [])(hk:Kahn nodes left ready ready.length [])(hall:nodes.length≤ready.length):Rises nodes lv:=by
 intro a ha hc m hm hmn;refine h.old a ha hc m hm ?_;rw[List.take_length];by_cases hmr:m∈ready
 ·exact hmr
 ·have hs:=len_sub (l:=m::ready) (T:=List.range nodes.length) (List.nodup_cons.2 ⟨hmr,hk.nd⟩) (λb hb=>by
   rcases List.mem_cons.1 hb with rfl|hb
   ·simpa using hmn
   ·simpa using hk.rn b hb)
  simp at hs;omega
end
/-! ### insertion -/
end Go.Pc
/- PcMemW: the circuits with a memory are valid. Plain. -/
namespace Go.Pc
open Go.Ax
structure wfM(c:Cir)(mm:Mm):Prop where
 pos:0<c.nodes.length
 len:c.nodes.length≤16
 names:c.names=(List.range c.nodes.length).map nameS
 kind:∀x∈c.nodes,x.kind≤15
 lo:∀x∈c.nodes,faninLo x.kind≤x.ins.length
 hi:∀x∈c.nodes,x.ins.length≤faninHi x.kind
 ins:∀x∈c.nodes,∀m∈x.ins,m<c.nodes.length
 bus:∀x∈c.nodes,x.kind=13→∀m∈x.ins,kindAt c.nodes m=12
 mem:∀x∈c.nodes,(x.kind≤14∧x.mem=0∧x.bit=0)∨(x.kind=15∧x.mem=0∧x.bit≤1)
 acyc:∀(i:Nat) (x:Nd),c.nodes[i]?=some x→isComb x.kind=true→∀m∈x.ins,m<i
 outs:∀o∈c.outs,o<c.nodes.length
 outl:c.outs.length≤4
 port:mm.a<c.nodes.length∧mm.d0<c.nodes.length∧mm.d1<c.nodes.length∧mm.w<c.nodes.length
theorem wfM.insl{c:Cir}{mm:Mm}(h:wfM c mm){x:Nd}(hx:x∈c.nodes):x.ins.length≤16:=by
 have k14:=h.kind x hx;have hhi:=h.hi x hx;have:faninHi x.kind≤16:=by
  have hk:x.kind=0∨x.kind=1∨x.kind=2∨x.kind=3∨x.kind=4∨x.kind=5∨x.kind=6∨x.kind=7∨x.kind=8∨x.kind=9∨x.kind=10∨x.kind=11∨x.kind=12∨x.kind=13∨x.kind=14∨x.kind=15:=by omega
  rcases hk with e|e|e|e|e|e|e|e|e|e|e|e|e|e|e|e<;>rw[e]<;>decide
 omega
theorem FoOk.totalM{nodes:List Nd}{i k j:Nat}{fo:List (List (Nat×Nat))}{L:List (Nat×Nat)}(h:FoOk nodes i k fo)(hL:fo[j]?=some L)(hn:nodes.length≤16)(hx:∀y∈nodes,y.ins.length≤16)(hi:i≤nodes.length:=by omega):L.length≤256:=by
 have hb:∀a,cnt L a≤16:=by
  intro a;have hins:(insAt nodes a).length≤16:=by
   unfold insAt;cases hx':nodes[a]? with
   |none=>simp
   |some x=>exact hx x (List.mem_of_getElem? hx')
  rw[h.num j L hL a];split
  ·exact Nat.le_trans List.count_le_length hins
  split
  ·rename_i e;subst e;refine Nat.le_trans List.count_le_length ?_;rw[List.length_take];omega
  ·omega
 rw[len_cnt nodes.length L (h.node hL hi)];have s:∀l:List Nat,(l.map λa=>cnt L a).sum≤16*l.length:=by
  intro l
  induction l with
  |nil=>simp
  |cons a l ih=>have:=hb a;simp only[List.map_cons,List.sum_cons,List.length_cons];omega
 have:=s (List.range nodes.length);rw[List.length_range]at this;omega
end Go.Pc
/- PcUni: parents in a list: their roots, a step halved, two roots joined. -/
namespace Go.Pc
def Par(d:Nat→Nat)(P:List Nat):Prop:=∀i p,P[i]?=some p→p<P.length∧(p=i∨d p<d i)
theorem Par.range(n:Nat):Par (λ_=>0) (List.range n):=by intro i p h;obtain⟨hi,rfl⟩:=List.getElem?_eq_some_iff.1 h;rw[List.length_range]at hi;rw[List.getElem_range,List.length_range];exact⟨hi,.inl rfl⟩
theorem Par.get{d:Nat→Nat}{P:List Nat}(h:Par d P){i:Nat}(hi:i<P.length):∃p,P[i]?=some p∧p<P.length∧(p=i∨d p<d i):=⟨_,List.getElem?_eq_getElem hi,h i _ (List.getElem?_eq_getElem hi)⟩
structure Kept(d:Nat→Nat)(P P':List Nat):Prop where
 len:P'.length=P.length
 par:Par d P'
 roots:∀x:Nat,P[x]?=some x→P'[x]?=some x
theorem Kept.rfl{d:Nat→Nat}{P:List Nat}(h:Par d P):Kept d P P:=⟨Eq.refl _,h,λ_ h=>h⟩
theorem Kept.trans{d:Nat→Nat}{P Q R:List Nat}(h:Kept d P Q)(k:Kept d Q R):Kept d P R:=⟨k.len.trans h.len,k.par,λx hx=>k.roots x (h.roots x hx)⟩
theorem Par.halve{d:Nat→Nat}{P:List Nat}(h:Par d P){i p q:Nat}(hi:P[i]?=some p)(hne:p≠i)(hp:P[p]?=some q):Kept d P (P.set i q)∧q<P.length∧d q<d i:=by
 have h1:=(h i p hi).2.resolve_left hne;obtain⟨h2,h3⟩:=h p q hp;have h4:d q<d i:=by
  rcases h3 with rfl|h3
  ·exact h1
  ·omega
 refine⟨⟨List.length_set ..,?_,?_⟩,h2,h4⟩
 ·intro j r hj;rw[List.length_set];rw[List.getElem?_set]at hj;split at hj
  ·rename_i e;subst e;split at hj
   ·cases hj;exact⟨h2,.inr h4⟩
   ·cases hj
  ·exact h j r hj
 ·intro x hx;rw[List.getElem?_set];split
  ·rename_i e;subst e;rw[hi]at hx;cases hx;exact absurd rfl hne
  ·exact hx
def up(P:List Nat):Nat→Nat→Nat
 |0,x=>x
 |k+1,x=>match P[x]? with
  |some p=>up P k p
  |none=>x
theorem up_root{P:List Nat}{b:Nat}(hb:P[b]?=some b):∀k,up P k b=b
 |0=>rfl
 |k+1=>by simp only[up,hb];exact up_root hb k
open Classical in
theorem Par.link{d:Nat→Nat}{P:List Nat}(h:Par d P){a b:Nat}(ha:P[a]?=some a)(hb:P[b]?=some b):∃d',Par d' (P.set a b):=by
 by_cases hab:a=b
 ·subst hab;refine⟨d,λj r hj=>?_⟩;rw[List.length_set];rw[List.getElem?_set]at hj;split at hj
  ·rename_i e;subst e;split at hj
   ·cases hj;exact⟨(h _ _ ha).1,.inl rfl⟩
   ·cases hj
  ·exact h j r hj
 ·refine⟨λx=>d x+if ∃k,up P k x=a then d b+1 else 0,λj r hj=>?_⟩;rw[List.length_set];rw[List.getElem?_set]at hj;have hnb:¬∃k,up P k b=a:=by
   rintro⟨k,hk⟩
   rw[up_root hb]at hk;exact hab hk.symm
  split at hj
  ·rename_i e;subst e;split at hj
   ·cases hj;refine⟨(h _ _ hb).1,.inr ?_⟩;have hra:∃k,up P k a=a:=⟨0,rfl⟩
    simp only[if_pos hra,if_neg hnb];omega
   ·cases hj
  ·rename_i e;obtain⟨h1,h2⟩:=h j r hj;refine⟨h1,?_⟩;rcases h2 with rfl|h2
   ·exact .inl rfl
   ·refine .inr ?_;have hiff:(∃k,up P k r=a)↔∃k,up P k j=a:=by
     constructor
     ·rintro⟨k,hk⟩
      exact⟨k+1,by simp only[up,hj];exact hk⟩
     ·rintro⟨k,hk⟩
      cases k with
      |zero=>exact absurd hk.symm e
      |succ k=>exact⟨k,by simp only[up,hj]at hk;exact hk⟩
    simp only[hiff];omega
end Go.Pc
/- PcMemX: the circuits with a memory are valid. Plain. -/
namespace Go.Pc
open Go.Ax
theorem CX.dnM_len(x:CX):x.dnM.length=x.d:=by have:x.d<3:=Nat.mod_lt _ (by omega);unfold CX.dnM;rw[List.length_map,List.length_take];simp;omega
theorem CX.nodesM_len(x:CX):x.nodesM.length=x.nM:=by unfold CX.nodesM CX.nM;rw[List.length_append,List.length_append,List.length_append,List.length_replicate,x.dnM_len,gN_length];show x.k+x.d+2+_=_;omega
theorem CX.dnM_kind(x:CX):x.dnM.map Nd.kind=List.replicate x.d 14:=by
 have:x.d=0∨x.d=1∨x.d=2:=by have:x.d<3:=Nat.mod_lt _ (by omega);omega
 unfold CX.dnM;rcases this with h|h|h<;>rw[h]<;>rfl
theorem CX.baseM_len(x:CX):x.baseM.length=x.k+x.d+2:=by unfold CX.baseM;rw[List.length_append,x.base_len];rfl
theorem CX.kindsM(x:CX):x.nodesM.map Nd.kind=x.baseM++(gN x.bus x.baseM x.gs).map Nd.kind:=by unfold CX.nodesM;rw[List.map_append,List.map_append,List.map_append,List.map_replicate,x.dnM_kind];rfl
theorem CX.node_casesM(x:CX){i:Nat}{nd:Nd}(h:x.nodesM[i]?=some nd):nd=inNd∨(∃v,nd=dffNd (v%x.nM))∨nd=mNd 0∨nd=mNd 1∨GateOk ((x.nodesM.map Nd.kind).take i) nd:=by
 unfold CX.nodesM at h;by_cases h1:i<x.k
 ·rw[List.append_assoc,List.append_assoc,List.getElem?_append_left (by simpa using h1),List.getElem?_replicate,if_pos h1]at h;exact .inl (Option.some.inj h).symm
 rw[List.append_assoc,List.append_assoc,List.getElem?_append_right (by simpa using h1),List.length_replicate]at h;by_cases h2:i-x.k<x.d
 ·rw[List.getElem?_append_left (by rw[x.dnM_len];exact h2)]at h;unfold CX.dnM at h;rw[List.getElem?_map]at h;cases hv:([x.d0,x.d1].take x.d)[i-x.k]? with
  |none=>rw[hv]at h;cases h
  |some v=>rw[hv]at h;exact .inr (.inl ⟨v,(Option.some.inj h).symm⟩)
 ·rw[List.getElem?_append_right (by rw[x.dnM_len];omega),x.dnM_len]at h;by_cases h3:i-x.k-x.d<2
  ·rw[List.getElem?_append_left h3]at h;have h01:i-x.k-x.d=0∨i-x.k-x.d=1:=by omega
   rcases h01 with e|e<;>rw[e]at h
   ·exact .inr (.inr (.inl (Option.some.inj h).symm))
   ·exact .inr (.inr (.inr (.inl (Option.some.inj h).symm)))
  ·rw[List.getElem?_append_right (show mN.length≤_ from Nat.le_of_not_lt h3)]at h;obtain⟨g,hg⟩:=gN_get _ _ _ _ _ h;refine .inr (.inr (.inr (.inr ?_)));have e:(x.nodesM.map Nd.kind).take i=x.baseM++((gN x.bus x.baseM x.gs).take (i-x.k-x.d-mN.length)).map Nd.kind:=by
    have hm:mN.length=2:=rfl;rw[x.kindsM,List.take_append,List.take_of_length_le (by rw[x.baseM_len];omega),x.baseM_len,List.map_take]
    congr 2;omega
   rw[e,hg];exact gate_prop _ _ _ (by rw[List.length_append,x.baseM_len];omega)
theorem CX.wfM(x:CX):Go.Pc.wfM x.cirM x.memA:=by
 have hn:=x.nodesM_len;have hk:x.k≤4∧0<x.k:=by unfold CX.k;omega
 have hd:x.d<3:=Nat.mod_lt _ (by omega);have hg:x.gs.length≤8:=by unfold CX.gs;rw[List.length_take];omega
 have hnn:x.nM=x.k+(x.d+2)+x.gs.length:=rfl;have key:∀nd∈x.nodesM,∃i,x.nodesM[i]?=some nd∧i<x.nM:=by intro nd h;obtain⟨i,hi⟩:=List.mem_iff_getElem?.1 h;exact⟨i,hi,by rw[←hn];exact(List.getElem?_eq_some_iff.1 hi).1⟩
 have hl:∀i,i<x.nM→((x.nodesM.map Nd.kind).take i).length=i:=λi hi=>by rw[List.length_take,List.length_map,hn];omega
 have hsrc:∀nd∈x.nodesM,nd=inNd∨(∃v,nd=dffNd (v%x.nM))∨nd=mNd 0∨nd=mNd 1∨∃i,i<x.nM∧GateOk ((x.nodesM.map Nd.kind).take i) nd:=by
  intro nd h;obtain⟨i,hi,hlt⟩:=key nd h;rcases x.node_casesM hi with h|h|h|h|h
  ·exact .inl h
  ·exact .inr (.inl h)
  ·exact .inr (.inr (.inl h))
  ·exact .inr (.inr (.inr (.inl h)))
  ·exact .inr (.inr (.inr (.inr ⟨i,hlt,h⟩)))
 refine⟨by show 0<x.nodesM.length;omega,by show x.nodesM.length≤16;omega,by show(List.range x.nM).map nameS=_;rw[show x.cirM.nodes=x.nodesM from rfl,hn],?_,?_,?_,?_,?_,?_,?_,?_,?_,?_⟩
 ·intro nd h;rcases hsrc nd h with rfl|⟨v,rfl⟩|rfl|rfl|⟨i,hi,h⟩
  ·decide
  ·exact Nat.le_succ 14
  ·exact Nat.le_refl 15
  ·exact Nat.le_refl 15
  ·have:=h.k13;omega
 ·intro nd h;rcases hsrc nd h with rfl|⟨v,rfl⟩|rfl|rfl|⟨i,hi,h⟩
  ·decide
  ·exact Nat.le_refl 1
  ·decide
  ·decide
  ·exact h.lo
 ·intro nd h;rcases hsrc nd h with rfl|⟨v,rfl⟩|rfl|rfl|⟨i,hi,h⟩
  ·decide
  ·exact Nat.le_refl 1
  ·decide
  ·decide
  ·exact h.hi
 ·intro nd h m hm;show m<x.nodesM.length;rw[hn];rcases hsrc nd h with rfl|⟨v,rfl⟩|rfl|rfl|⟨i,hi,h⟩
  ·simp[inNd]at hm
  ·simp only[dffNd,List.mem_cons,List.not_mem_nil,or_false]at hm;subst hm;exact Nat.mod_lt _ (by omega)
  ·simp[mNd]at hm
  ·simp[mNd]at hm
  ·have:=h.ins m hm;rw[hl i hi]at this;omega
 ·intro nd h h13 m hm;rcases hsrc nd h with rfl|⟨v,rfl⟩|rfl|rfl|⟨i,hi,h⟩
  ·simp[inNd]at hm
  ·simp[dffNd]at h13
  ·simp[mNd]at hm
  ·simp[mNd]at hm
  ·have h1:=h.bus h13 m hm;have h2:=h.ins m hm;rw[hl i hi]at h2;rw[List.getElem?_take,if_pos h2,List.getElem?_map]at h1;show kindAt x.nodesM m=12;unfold kindAt;rw[h1];rfl
 ·intro nd h;rcases hsrc nd h with rfl|⟨v,rfl⟩|rfl|rfl|⟨i,hi,h⟩
  ·exact .inl ⟨by decide,rfl,rfl⟩
  ·exact .inl ⟨Nat.le_refl 14,rfl,rfl⟩
  ·exact .inr ⟨rfl,rfl,by decide⟩
  ·exact .inr ⟨rfl,rfl,by decide⟩
  ·exact .inl ⟨by have:=h.k13;omega,h.mem.1,h.mem.2⟩
 ·intro i nd h hc m hm;have hlt:i<x.nM:=by rw[←hn];exact(List.getElem?_eq_some_iff.1 h).1
  rcases x.node_casesM h with rfl|⟨v,rfl⟩|rfl|rfl|h
  ·simp[inNd]at hm
  ·simp[dffNd,isComb]at hc
  ·simp[mNd]at hm
  ·simp[mNd]at hm
  ·have:=h.ins m hm;rw[hl i hlt]at this;exact this
 ·intro o ho;show o<x.nodesM.length;rw[hn];have ho:o∈x.outNM:=ho;unfold CX.outNM at ho;simp only[List.mem_append,List.mem_map,List.mem_cons,List.not_mem_nil,or_false]at ho;rcases ho with ⟨a,_,rfl⟩|rfl
  ·exact Nat.mod_lt _ (by omega)
  ·omega
 ·show x.outNM.length≤4;unfold CX.outNM;simp;omega
 ·show x.p0%x.nM<x.nodesM.length∧x.p1%x.nM<x.nodesM.length∧x.p2%x.nM<x.nodesM.length∧x.p3%x.nM<x.nodesM.length;rw[hn];exact⟨Nat.mod_lt _ (by omega),Nat.mod_lt _ (by omega),Nat.mod_lt _ (by omega),Nat.mod_lt _ (by omega)⟩
end Go.Pc
