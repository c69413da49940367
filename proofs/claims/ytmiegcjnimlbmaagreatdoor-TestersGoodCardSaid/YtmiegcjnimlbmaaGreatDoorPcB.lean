/- PcWord: words of 64 values as d0s data. Plain definitions. -/
import Derived.Test.YtmiegcjnimlbmaaGreatDoorPcP
import Derived.Test.YtmiegcjnimlbmaaGreatDoorAxD
set_option linter.unusedSimpArgs false
set_option linter.unusedVariables false
namespace Go.Pc
open Go.Ax
structure W where
 one:BitVec 64
 zero:BitVec 64
def a37(v:Nat):Nat:=if 3<v then 2 else v
def a1s(k:Nat):Nat:=[0,0,0,1,1,2,2,2,2,2,2,3,2,1,1,0].getD k 0
def a21(k:Nat):Nat:=[0,0,0,1,1,16,16,16,16,16,16,3,2,16,1,0].getD k 0
def a1g(k:Nat):Bool:=decide (1≤k)&&decide (k≤13)
end Go.Pc
/- PcSim: one cycle of a circuit, over words or over single values; lanes of words are single values. Plain definitions. -/
namespace Go.Pc
open Go.Ax
structure Alg(α:Type) where
 ev:Nat→List α→α
 z:α
 fill:Nat→α
structure Hk(α:Type) where
 net:Nat→α→α
 pin:Nat→Nat→α→α
structure Pat where
 ic:Rep
 ins:List Nat
 sc:Rep
 sts:List Nat
def Pat.enc(p:Pat):List AV:=[sl p.ic (p.ins.map u8R),sl p.sc (p.sts.map u8R)]
section
variable {α:Type}(A:Alg α)(nodes:List Nd)(h:Hk α)
def a0y(nodes:List Nd)(n:Nat):Nat:=(nodes[n]?.map Nd.kind).getD 0
def a35(nodes:List Nd)(n:Nat):List Nat:=(nodes[n]?.map Nd.ins).getD []
def a56(n:Nat)(al:List α):Nat→List Nat→List α
 |_,[]=>[]
 |p,m::r=>h.pin n p (al.getD m A.z)::a56 n al (p+1) r
def a5u(al:List α)(n:Nat):List α:=a56 A h n al 0 (a35 nodes n)
def stepG(al:List α)(n:Nat):List α:=al.set n (h.net n (if a0y nodes n≠0∧a0y nodes n≠14 then A.ev (a0y nodes n) (a5u A nodes h al n)else al.getD n A.z))
def a2f(al:List α):List Nat→List α→List α
 |i::is,v::vs=>a2f (al.set i v) is vs
 |_,_=>al
def c6q(ord ins sts:List Nat)(vi vs:List α):List α:=ord.foldl (stepG A nodes h) (a2f (a2f (List.replicate nodes.length A.z) ins vi) sts vs)
def hk0:Hk α:=⟨λ_ w=>w,λ_ _ w=>w⟩
end
structure Hom{α β:Type}(A:Alg α)(B:Alg β)(φ:α→β):Prop where
 ev:∀k l,φ (A.ev k l)=B.ev k (l.map φ)
 z:φ A.z=B.z
 fill:∀v,φ (A.fill v)=B.fill v
structure HkHom{α β:Type}(φ:α→β)(h:Hk α)(k:Hk β):Prop where
 net:∀n w,φ (h.net n w)=k.net n (φ w)
 pin:∀n p w,φ (h.pin n p w)=k.pin n p (φ w)
section
variable {α β:Type}{A:Alg α}{B:Alg β}{φ:α→β}(hφ:Hom A B φ){nodes:List Nd}{h:Hk α}{k:Hk β}(hk:HkHom φ h k)
include hφ
include hk
end
/-! ### single values -/
abbrev V2:=Bool×Bool
def a0w(v:Nat):V2:=match a37 v with
 |0=>(false,true)
 |1=>(true,false)
 |2=>(false,false)
 |_=>(true,true)
def c2v(a b:V2):V2:=(a.1&&b.1,a.2||b.2)
def vOr(a b:V2):V2:=(a.1||b.1,a.2&&b.2)
def c2u(a b:V2):V2:=(a.1&&b.2||a.2&&b.1,a.1&&b.1||a.2&&b.2)
def b97(w:V2):V2:=(w.1 && !(w.1&&w.2),w.2 && !(w.1&&w.2))
def c5a(w:V2):V2:=(w.2,w.1)
def e22(s a b:V2):V2:=(s.2&&a.1||s.1&&b.1||a.1&&b.1,s.2&&a.2||s.1&&b.2||a.2&&b.2)
def e21(e d:V2):V2:=(e.2||e.1&&d.1,e.2||e.1&&d.2)
def c2t(s:Bool×Bool×Bool)(w:V2):Bool×Bool×Bool:=(s.1||(w.1 && !w.2),s.2.1||(w.2 && !w.1),s.2.2 || !(w.1||w.2))
def e48(s:Bool×Bool×Bool):V2:=(!s.2.1 && !(s.2.2||(s.1&&s.2.1)),!s.1 && !(s.2.2||(s.1&&s.2.1)))
def e49(l:List V2):V2:=e48 (l.foldl c2t (false,false,false))
def d3j(k:Nat)(r:List V2):V2:=match k with
 |1=>a0w 0
 |2=>a0w 1
 |3=>r.getD 0 (false,false)
 |4=>c5a (r.getD 0 (false,false))
 |5=>r.foldl c2v (a0w 1)
 |6=>c5a (r.foldl c2v (a0w 1))
 |7=>r.foldl vOr (a0w 0)
 |8=>c5a (r.foldl vOr (a0w 0))
 |9=>r.foldl c2u (a0w 0)
 |10=>c5a (r.foldl c2u (a0w 0))
 |11=>e22 (r.getD 0 (false,false)) (r.getD 1 (false,false)) (r.getD 2 (false,false))
 |12=>e21 (r.getD 0 (false,false)) (r.getD 1 (false,false))
 |_=>a0w 2
def d9d(k:Nat)(l:List V2):V2:=
 if l.length<a1s k∨a21 k<l.length then a0w 2
 else if k=13 then e49 l
 else d3j k (l.map b97)
section
variable {j:Nat}(hj:j<64)
include hj
end
/-! ### contradictions -/
/-! ### a circuit -/
structure Sim where
 nodes:List Nd
 ord:List Nat
 ins:List Nat
 sts:List Nat
 outs:List Nat
section
variable {α:Type}(A:Alg α)(S:Sim)
end
end Go.Pc
/- PcWf: the circuits of the statements are valid. Plain. -/
namespace Go.Pc
open Go.Ax
structure Cir.wf(c:Cir):Prop where
 pos:0<c.nodes.length
 len:c.nodes.length≤14
 names:c.names=(List.range c.nodes.length).map a24
 kind:∀x∈c.nodes,x.kind≤14
 lo:∀x∈c.nodes,a1s x.kind≤x.ins.length
 hi:∀x∈c.nodes,x.ins.length≤a21 x.kind
 ins:∀x∈c.nodes,∀m∈x.ins,m<c.nodes.length
 bus:∀x∈c.nodes,x.kind=13→∀m∈x.ins,a0y c.nodes m=12
 mem:∀x∈c.nodes,x.mem=0∧x.bit=0
 acyc:∀(i:Nat) (x:Nd),c.nodes[i]?=some x→a1g x.kind=true→∀m∈x.ins,m<i
 outs:∀o∈c.outs,o<c.nodes.length
 outl:c.outs.length≤4
theorem d70{k:Nat}(h:k<6):a1s (5+k)=2∧a21 (5+k)=16:=by
 have:k=0∨k=1∨k=2∨k=3∨k=4∨k=5:=by omega
 rcases this with rfl|rfl|rfl|rfl|rfl|rfl<;>exact⟨rfl,rfl⟩
structure GateOk(ks:List Nat)(x:Nd):Prop where
 k1:1≤x.kind
 k13:x.kind≤13
 lo:a1s x.kind≤x.ins.length
 hi:x.ins.length≤a21 x.kind
 ins:∀m∈x.ins,m<ks.length
 bus:x.kind=13→∀m∈x.ins,ks[m]?=some 12
 mem:x.mem=0∧x.bit=0
theorem c19{ks:List Nat}{i:Nat}(h:i<(a83 ks).length):(a83 ks).getD i 0<ks.length∧ks[(a83 ks).getD i 0]?=some 12:=by
 have:(a83 ks).getD i 0∈a83 ks:=by rw[List.getD,List.getElem?_eq_getElem h];exact List.getElem_mem h
 exact c2w this
theorem b8f(bus:Bool)(g:GX)(ks:List Nat)(hp:0<ks.length):GateOk ks (a0g bus g ks):=by
 have a:=Nat.mod_lt g.i0 hp;have b:=Nat.mod_lt g.i1 hp;have d:=Nat.mod_lt g.i2 hp;unfold a0g;dsimp only;generalize(if bus=true then g.kind%13 else g.kind%9)=kind;split
 ·rename_i h6;obtain⟨e1,e2⟩:=d70 h6;split
  ·exact⟨by dsimp only;omega,by dsimp only;omega,by simp[e1],by simp[e2],by simp[a,b,d],by dsimp only;omega,⟨rfl,rfl⟩⟩
  ·exact⟨by dsimp only;omega,by dsimp only;omega,by simp[e1],by simp[e2],by simp[a,b],by dsimp only;omega,⟨rfl,rfl⟩⟩
 split
 ·exact⟨by dsimp only;omega,by dsimp only;omega,by simp[a1s],by simp[a21],by simp[a],by simp,⟨rfl,rfl⟩⟩
 split
 ·exact⟨by dsimp only;omega,by dsimp only;omega,by simp[a1s],by simp[a21],by simp[a,b,d],by simp,⟨rfl,rfl⟩⟩
 split
 ·exact⟨by dsimp only;omega,by dsimp only;omega,by simp[a1s],by simp[a21],by simp[a,b],by simp,⟨rfl,rfl⟩⟩
 split
 ·rename_i h;have t0:=c19 (Nat.mod_lt g.i0 h.2);split
  ·have t1:=c19 (Nat.mod_lt (g.i0%(a83 ks).length+1) h.2);refine⟨by dsimp only;omega,by dsimp only;omega,by simp[a1s],by simp[a21],?_,?_,⟨rfl,rfl⟩⟩
   ·intro m hm;simp only[List.mem_cons,List.not_mem_nil,or_false]at hm;rcases hm with rfl|rfl;exact t0.1;exact t1.1
   ·intro _ m hm;simp only[List.mem_cons,List.not_mem_nil,or_false]at hm;rcases hm with rfl|rfl;exact t0.2;exact t1.2
  ·refine⟨by dsimp only;omega,by dsimp only;omega,by simp[a1s],by simp[a21],?_,?_,⟨rfl,rfl⟩⟩
   ·intro m hm;simp only[List.mem_cons,List.not_mem_nil,or_false]at hm;subst hm;exact t0.1
   ·intro _ m hm;simp only[List.mem_cons,List.not_mem_nil,or_false]at hm;subst hm;exact t0.2
 split
 ·have:g.i0%2=0∨g.i0%2=1:=by omega
  rcases this with h|h<;>rw[h]<;>exact⟨by dsimp only;omega,by dsimp only;omega,by simp[a1s],by simp[a21],by simp,by simp,⟨rfl,rfl⟩⟩
 ·exact⟨by dsimp only;omega,by dsimp only;omega,by simp[a1s],by simp[a21],by simp[a],by simp,⟨rfl,rfl⟩⟩
theorem c81(bus:Bool):∀(l:List GX) (ks:List Nat) (i:Nat) (x:Nd),(gN bus ks l)[i]?=some x→∃g,x=a0g bus g (ks++((gN bus ks l).take i).map Nd.kind)
 | [],ks,i,x,h=>by simp[gN]at h
 |g::l,ks,0,x,h=>by simp only[gN,List.getElem?_cons_zero,Option.some.injEq]at h;exact⟨g,by rw[←h];simp⟩
 |g::l,ks,i+1,x,h=>by simp only[gN,List.getElem?_cons_succ]at h;obtain⟨g',hg⟩:=c81 bus l _ i x h;exact⟨g',by rw[hg];simp[gN]⟩
theorem CX.dn_len(x:CX):x.dn.length=x.d:=by have:x.d<3:=Nat.mod_lt _ (by omega);unfold CX.dn;rw[List.length_map,List.length_take];simp;omega
theorem CX.nodes_len(x:CX):x.nodes.length=x.n:=by unfold CX.nodes CX.n;rw[List.length_append,List.length_append,List.length_replicate,x.dn_len,a4g]
theorem CX.dn_kind(x:CX):x.dn.map Nd.kind=List.replicate x.d 14:=by
 have:x.d=0∨x.d=1∨x.d=2:=by have:x.d<3:=Nat.mod_lt _ (by omega);omega
 unfold CX.dn;rcases this with h|h|h<;>rw[h]<;>rfl
theorem CX.base_len(x:CX):x.base.length=x.k+x.d:=by unfold CX.base;simp
theorem CX.kinds(x:CX):x.nodes.map Nd.kind=x.base++(gN x.bus x.base x.gs).map Nd.kind:=by unfold CX.nodes CX.base;rw[List.map_append,List.map_append,List.map_replicate,x.dn_kind];rfl
theorem CX.node_cases(x:CX){i:Nat}{nd:Nd}(h:x.nodes[i]?=some nd):nd=c0a∨(∃v,nd=a8m (v%x.n))∨GateOk ((x.nodes.map Nd.kind).take i) nd:=by
 unfold CX.nodes at h;by_cases h1:i<x.k
 ·rw[List.append_assoc,List.getElem?_append_left (by simpa using h1),List.getElem?_replicate,if_pos h1]at h;exact .inl (Option.some.inj h).symm
 rw[List.append_assoc,List.getElem?_append_right (by simpa using h1),List.length_replicate]at h;by_cases h2:i-x.k<x.d
 ·rw[List.getElem?_append_left (by rw[x.dn_len];exact h2)]at h;unfold CX.dn at h;rw[List.getElem?_map]at h;cases hv:([x.d0,x.d1].take x.d)[i-x.k]? with
  |none=>rw[hv]at h;cases h
  |some v=>rw[hv]at h;exact .inr (.inl ⟨v,(Option.some.inj h).symm⟩)
 ·rw[List.getElem?_append_right (by rw[x.dn_len];omega),x.dn_len]at h;obtain⟨g,hg⟩:=c81 _ _ _ _ _ h;refine .inr (.inr ?_);have e:(x.nodes.map Nd.kind).take i=x.base++((gN x.bus x.base x.gs).take (i-x.k-x.d)).map Nd.kind:=by
   rw[x.kinds,List.take_append,List.take_of_length_le (by rw[x.base_len];omega),x.base_len,List.map_take]
   congr 2;omega
  rw[e,hg];exact b8f _ _ _ (by
   rw[List.length_append,x.base_len];have:0<x.k:=by unfold CX.k;omega
   omega)
theorem CX.wf(x:CX):x.cir.wf:=by
 have hn:=x.nodes_len;have hk:x.k≤4∧0<x.k:=by unfold CX.k;omega
 have hd:x.d<3:=Nat.mod_lt _ (by omega);have hg:x.gs.length≤8:=by unfold CX.gs;rw[List.length_take];omega
 have eX:x.n=x.k+x.d+x.gs.length:=rfl;have key:∀nd∈x.nodes,∃i,x.nodes[i]?=some nd∧i<x.n:=by intro nd h;obtain⟨i,hi⟩:=List.mem_iff_getElem?.1 h;exact⟨i,hi,by rw[←hn];exact(List.getElem?_eq_some_iff.1 hi).1⟩
 have hl:∀i,i<x.n→((x.nodes.map Nd.kind).take i).length=i:=λi hi=>by rw[List.length_take,List.length_map,hn];omega
 have fC:∀nd∈x.nodes,nd=c0a∨(∃v,nd=a8m (v%x.n))∨∃i,i<x.n∧GateOk ((x.nodes.map Nd.kind).take i) nd:=by
  intro nd h;obtain⟨i,hi,ak⟩:=key nd h;rcases x.node_cases hi with h|h|h
  ·exact .inl h
  ·exact .inr (.inl h)
  ·exact .inr (.inr ⟨i,ak,h⟩)
 refine⟨by show 0<x.nodes.length;omega,by show x.nodes.length≤14;omega,by show x.names=_;rw[show x.cir.nodes=x.nodes from rfl,hn];rfl,?_,?_,?_,?_,?_,?_,?_,?_,?_⟩
 ·intro nd h;rcases fC nd h with rfl|⟨v,rfl⟩|⟨i,hi,h⟩
  ·decide
  ·exact Nat.le_refl 14
  ·have:=h.k13;omega
 ·intro nd h;rcases fC nd h with rfl|⟨v,rfl⟩|⟨i,hi,h⟩
  ·decide
  ·exact Nat.le_refl 1
  ·exact h.lo
 ·intro nd h;rcases fC nd h with rfl|⟨v,rfl⟩|⟨i,hi,h⟩
  ·decide
  ·exact Nat.le_refl 1
  ·exact h.hi
 ·intro nd h m hm;show m<x.nodes.length;rw[hn];rcases fC nd h with rfl|⟨v,rfl⟩|⟨i,hi,h⟩
  ·simp[c0a]at hm
  ·simp only[a8m,List.mem_cons,List.not_mem_nil,or_false]at hm;subst hm;exact Nat.mod_lt _ (by omega)
  ·have:=h.ins m hm;rw[hl i hi]at this;omega
 ·intro nd h h13 m hm;rcases fC nd h with rfl|⟨v,rfl⟩|⟨i,hi,h⟩
  ·simp[c0a]at hm
  ·simp[a8m]at h13
  ·have h1:=h.bus h13 m hm;have h2:=h.ins m hm;rw[hl i hi]at h2;rw[List.getElem?_take,if_pos h2,List.getElem?_map]at h1;show a0y x.nodes m=12;unfold a0y;rw[h1];rfl
 ·intro nd h;rcases fC nd h with rfl|⟨v,rfl⟩|⟨i,hi,h⟩
  ·exact⟨rfl,rfl⟩
  ·exact⟨rfl,rfl⟩
  ·exact h.mem
 ·intro i nd h hc m hm;have ak:i<x.n:=by rw[←hn];exact(List.getElem?_eq_some_iff.1 h).1
  rcases x.node_cases h with rfl|⟨v,rfl⟩|h
  ·simp[c0a]at hm
  ·simp[a8m,a1g]at hc
  ·have:=h.ins m hm;rw[hl i ak]at this;exact this
 ·intro o ho;show o<x.nodes.length;rw[hn];have ho:o∈x.outN:=ho;unfold CX.outN at ho;simp only[List.mem_append,List.mem_map,List.mem_cons,List.not_mem_nil,or_false]at ho;rcases ho with ⟨a,_,rfl⟩|rfl
  ·exact Nat.mod_lt _ (by omega)
  ·omega
 ·show x.outN.length≤4;unfold CX.outN;simp;omega
end Go.Pc
/- PcFan: which pins read a net. Plain. -/
namespace Go.Pc
open Go.Ax
def a7a(l:Nat×Nat):List AV:=[.int .i64 l.1,.int .i64 l.2]
def cnt(L:List (Nat×Nat))(a:Nat):Nat:=(L.map (·.1)).count a
structure FoOk(nodes:List Nd)(i k:Nat)(fo:List (List (Nat×Nat))):Prop where
 len:fo.length=nodes.length
 num:∀(j:Nat) (L:List (Nat×Nat)),fo[j]?=some L→∀a,cnt L a=if a<i then(a35 nodes a).count j else if a=i then((a35 nodes i).take k).count j else 0
theorem FoOk.zero(nodes:List Nd):FoOk nodes 0 0 (List.replicate nodes.length []):=by
 refine⟨by simp,λj L h a=>?_⟩;rw[List.getElem?_replicate]at h;split at h
 ·cases h;simp[Pc.cnt]
 ·cases h
theorem FoOk.step{nodes:List Nd}{i k m:Nat}{fo:List (List (Nat×Nat))}{L:List (Nat×Nat)}(h:FoOk nodes i k fo)(hm:(a35 nodes i)[k]?=some m)(hL:fo[m]?=some L):FoOk nodes i (k+1) (fo.set m (L++[(i,k)])):=by
 refine⟨by rw[List.length_set,h.len],λj L' hj a=>?_⟩;have ht:=a1a hm;rw[List.getElem?_set]at hj;have da:m<fo.length:=(List.getElem?_eq_some_iff.1 hL).1;by_cases nN:m=j
 ·subst nN;simp only[if_true,da,Option.some.injEq]at hj;subst hj;have:=h.num m L hL a;have e:Pc.cnt (L++[(i,k)]) a=Pc.cnt L a+if i=a then 1 else 0:=by
   unfold Pc.cnt;rw[List.map_append,List.count_append];by_cases iu:i=a
   ·subst iu;simp
   ·simp[iu,List.count_cons]
  rw[e,this,ht];by_cases h1:a<i
  ·simp[h1];omega
  ·by_cases h2:a=i
   ·subst h2;simp
   ·simp[h1,h2];omega
 ·rw[if_neg nN]at hj;have:=h.num j L' hj a;rw[this,ht];by_cases h1:a<i
  ·simp[h1]
  ·by_cases h2:a=i
   ·subst h2;simp[List.count_append,List.count_cons,nN]
   ·simp[h1,h2]
theorem FoOk.next{nodes:List Nd}{i k:Nat}{fo:List (List (Nat×Nat))}(h:FoOk nodes i k fo)(hk:k=(a35 nodes i).length):FoOk nodes (i+1) 0 fo:=by
 refine⟨h.len,λj L hj a=>?_⟩;rw[h.num j L hj a];subst hk;rw[List.take_length];by_cases h1:a<i
 ·simp[h1,show a<i+1 by omega]
 ·by_cases h2:a=i
  ·subst h2;simp
  ·simp[h1,h2,show ¬a<i+1 by omega]
theorem a59{nodes:List Nd}{i:Nat}{x:Nd}(h:nodes[i]?=some x):a35 nodes i=x.ins:=by simp[a35,h]
theorem c77(n:Nat):∀(L:List (Nat×Nat)),(∀l∈L,l.1<n)→L.length=((List.range n).map λa=>cnt L a).sum
 | [],_=>by
  have:∀l:List Nat,(l.map λa=>cnt [] a).sum=0:=by intro l;induction l with|nil=>rfl|cons a l ih=>rw[List.map_cons,List.sum_cons,ih];rfl
  rw[this];rfl
 |x::L,h=>by
  have ih:=c77 n L (λl hl=>h l (by simp[hl]));have hx:=h x (by simp);have e:∀a,cnt (x::L) a=cnt L a+if x.1=a then 1 else 0:=λa=>by unfold cnt;rw[List.map_cons,List.count_cons];simp[beq_iff_eq]
  have s:∀(l:List Nat),l.Nodup→(l.map λa=>cnt (x::L) a).sum=(l.map λa=>cnt L a).sum+if x.1∈l then 1 else 0:=by
   intro l
   induction l with
   |nil=>intro _;rfl
   |cons a l ih2=>
    intro hn;rw[List.nodup_cons]at hn;simp only[List.map_cons,List.sum_cons,e a,ih2 hn.2,List.mem_cons];by_cases h1:x.1=a
    ·subst h1;simp[hn.1];omega
    ·simp[h1];omega
  rw[s _ List.nodup_range,if_pos (by simpa using hx),List.length_cons,ih]
theorem FoOk.node{nodes:List Nd}{i k j:Nat}{fo:List (List (Nat×Nat))}{L:List (Nat×Nat)}(h:FoOk nodes i k fo)(hL:fo[j]?=some L)(hi:i≤nodes.length):∀l∈L,l.1<nodes.length:=by
 intro l hl;have hc:=h.num j L hL l.1;have hp:0<cnt L l.1:=by unfold cnt;exact List.count_pos_iff.2 (List.mem_map.2 ⟨l,hl,rfl⟩)
 by_cases h1:l.1<i
 ·omega
 ·rw[if_neg h1]at hc;by_cases h2:l.1=i
  ·rw[if_pos h2]at hc;cases hx:nodes[i]? with
   |none=>simp[a35,hx]at hc;omega
   |some x=>have:=(List.getElem?_eq_some_iff.1 hx).1;omega
  ·rw[if_neg h2]at hc;omega
theorem FoOk.total{nodes:List Nd}{i k j:Nat}{fo:List (List (Nat×Nat))}{L:List (Nat×Nat)}(h:FoOk nodes i k fo)(hL:fo[j]?=some L)(hn:nodes.length≤14)(hx:∀y∈nodes,y.ins.length≤16)(hi:i≤nodes.length:=by omega):L.length≤224:=by
 have hb:∀a,cnt L a≤16:=by
  intro a;have jL:(a35 nodes a).length≤16:=by
   unfold a35;cases eN:nodes[a]? with
   |none=>simp
   |some x=>exact hx x (List.mem_of_getElem? eN)
  rw[h.num j L hL a];split
  ·exact Nat.le_trans List.count_le_length jL
  split
  ·rename_i e;subst e;refine Nat.le_trans List.count_le_length ?_;rw[List.length_take];omega
  ·omega
 rw[c77 nodes.length L (h.node hL hi)];have s:∀l:List Nat,(l.map λa=>cnt L a).sum≤16*l.length:=by
  intro l
  induction l with
  |nil=>simp
  |cons a l ih=>have:=hb a;simp only[List.map_cons,List.sum_cons,List.length_cons];omega
 have:=s (List.range nodes.length);rw[List.length_range]at this;omega
theorem Cir.wf.insl{c:Cir}(h:c.wf){x:Nd}(hx:x∈c.nodes):x.ins.length≤16:=by
 have k14:=h.kind x hx;have kq:=h.hi x hx;have:a21 x.kind≤16:=by
  have hk:x.kind=0∨x.kind=1∨x.kind=2∨x.kind=3∨x.kind=4∨x.kind=5∨x.kind=6∨x.kind=7∨x.kind=8∨x.kind=9∨x.kind=10∨x.kind=11∨x.kind=12∨x.kind=13∨x.kind=14:=by omega
  rcases hk with e|e|e|e|e|e|e|e|e|e|e|e|e|e|e<;>rw[e]<;>decide
 omega
end Go.Pc
/- PcKahn: the order in which nodes become ready. Plain. -/
namespace Go.Pc
open Go.Ax
def b7c(nodes:List Nd)(ready:List Nat)(done a:Nat):Nat:=((a35 nodes a).filter λm=>decide (m∉ready.take done)).length
structure Kahn(nodes:List Nd)(left ready:List Nat)(done:Nat)(L:List (Nat×Nat)):Prop where
 ll:left.length=nodes.length
 rn:∀r∈ready,r<nodes.length
 nd:ready.Nodup
 dle:done≤ready.length
 eq:∀a,a<nodes.length→a1g (a0y nodes a)=true→left.getD a 0+cnt L a=b7c nodes ready done a
 nc:∀a,a<nodes.length→a1g (a0y nodes a)=false→left.getD a 0=0
 zero:∀a,a<nodes.length→(a∈ready↔left.getD a 0=0)
def a8x(nodes:List Nd)(a:Nat):Nat:=if a1g (a0y nodes a)then(a35 nodes a).length else 0
def a2q(nodes:List Nd)(i:Nat):List Nat:=(List.range nodes.length).map λj=>if j<i then a8x nodes j else 0
def a3d(nodes:List Nd)(i:Nat):List Nat:=(List.range i).filter λj=>decide (a8x nodes j=0)
theorem b7s(nodes:List Nd)(i:Nat):a3d nodes (i+1)=if a8x nodes i=0 then a3d nodes i++[i]else a3d nodes i:=by unfold a3d;rw[List.range_succ,List.filter_append];by_cases h:a8x nodes i=0<;>simp[h]
theorem c3c(nodes:List Nd)(i:Nat):(a3d nodes i).length≤i:=Nat.le_trans (List.length_filter_le _ _) (by simp)
theorem c05(nodes:List Nd):a2q nodes 0=List.replicate nodes.length 0:=by
 apply List.ext_getElem?;intro j;simp only[a2q,List.getElem?_map,List.getElem?_replicate,Nat.not_lt_zero,if_false];by_cases h:j<nodes.length
 ·rw[List.getElem?_range h];simp[h]
 ·rw[List.getElem?_eq_none (by simpa using h)];simp[h]
theorem a4v{nodes:List Nd}{i j:Nat}(h:j<nodes.length):(a2q nodes i)[j]?=some (if j<i then a8x nodes j else 0):=by simp[a2q,List.getElem?_range h]
theorem b2g{nodes:List Nd}{i:Nat}(h:i<nodes.length):(a2q nodes i).set i (a8x nodes i)=a2q nodes (i+1):=by
 apply List.ext_getElem?;intro j;rw[List.getElem?_set];by_cases hj:j<nodes.length
 ·rw[a4v hj,a4v hj];by_cases bc:i=j
  ·subst bc;simp[a2q,h]
  ·by_cases h2:j<i
   ·simp[bc,h2,show j<i+1 by omega]
   ·simp[bc,h2,show ¬j<i+1 by omega]
 ·have e:∀i,(a2q nodes i)[j]?=none:=λi=>List.getElem?_eq_none (by simp[a2q];omega);rw[e,e];have:i≠j:=by omega
  simp[this]
theorem c06{nodes:List Nd}{i:Nat}(h:i<nodes.length)(h0:a8x nodes i=0):a2q nodes i=a2q nodes (i+1):=by
 rw[←b2g h];apply List.ext_getElem?;intro j;rw[List.getElem?_set];by_cases bc:i=j
 ·subst bc;rw[a4v h];simp[a2q,h,h0]
 ·simp[bc]
theorem Kahn.start(nodes:List Nd):Kahn nodes (a2q nodes nodes.length) (a3d nodes nodes.length) 0 []:=by
 have hg:∀a,a<nodes.length→(a2q nodes nodes.length).getD a 0=a8x nodes a:=by intro a ha;rw[List.getD,a4v ha];simp[ha]
 refine⟨by simp[a2q],?_,?_,Nat.zero_le _,?_,?_,?_⟩
 ·intro r hr;unfold a3d at hr;rw[List.mem_filter]at hr;simpa using hr.1
 ·exact List.nodup_range.filter _
 ·intro a ha hc;rw[hg a ha];have e:∀l:List Nat,(l.filter λm=>decide (m∉([]:List Nat)))=l:=λl=>List.filter_eq_self.2 (λm _=>by simp);simp only[a8x,hc,if_true,b7c,cnt,List.map_nil,List.count_nil,List.take_zero,Nat.add_zero];exact(congrArg List.length (e _)).symm
 ·intro a ha hc;rw[hg a ha];simp[a8x,hc]
 ·intro a ha;rw[hg a ha];unfold a3d;rw[List.mem_filter];simp[ha]
section
variable {nodes:List Nd}{left ready:List Nat}{done:Nat}{L:List (Nat×Nat)}
theorem b6v(L:List (Nat×Nat))(a p b:Nat):cnt (L++[(a,p)]) b=cnt L b+if a=b then 1 else 0:=by
 unfold cnt;rw[List.map_append,List.count_append];by_cases iu:a=b
 ·subst iu;simp
 ·simp[iu,List.count_cons]
theorem Kahn.skip(h:Kahn nodes left ready done L){a p:Nat}(hc:a1g (a0y nodes a)=false):Kahn nodes left ready done (L++[(a,p)]):=by
 refine⟨h.ll,h.rn,h.nd,h.dle,?_,h.nc,h.zero⟩;intro b hb b6;have:a≠b:=λe=>by subst e;rw[hc]at b6;cases b6
 rw[b6v,if_neg this,Nat.add_zero];exact h.eq b hb b6
theorem d0t{ready:List Nat}{done x a:Nat}(h:done≤ready.length):b7c nodes (ready++[x]) done a=b7c nodes ready done a:=by unfold b7c;rw[List.take_append_of_le_length h]
theorem Kahn.pos(h:Kahn nodes left ready done L){a p:Nat}(ha:a<nodes.length)(hc:a1g (a0y nodes a)=true)(jX:cnt (L++[(a,p)]) a≤b7c nodes ready done a):0<left.getD a 0:=by have:=h.eq a ha hc;rw[b6v,if_pos rfl]at jX;omega
theorem Kahn.dec(h:Kahn nodes left ready done L){a p:Nat}(ha:a<nodes.length)(hc:a1g (a0y nodes a)=true)(jX:cnt (L++[(a,p)]) a≤b7c nodes ready done a) :
 Kahn nodes (left.set a (left.getD a 0-1)) (if left.getD a 0-1=0 then ready++[a]else ready) done (L++[(a,p)]):=by
 have fE:=h.pos ha hc jX;have fK:a<left.length:=by rw[h.ll];exact ha
 have a8:∀b,(left.set a (left.getD a 0-1)).getD b 0=if a=b then left.getD a 0-1 else left.getD b 0:=by
  intro b;simp only[List.getD_eq_getElem?_getD,List.getElem?_set];by_cases cB:a=b
  ·subst cB;simp[fK]
  ·simp[cB]
 have gt:a∉ready:=λhm=>by have:=(h.zero a ha).1 hm;omega
 have dv:∀b,b7c nodes (if left.getD a 0-1=0 then ready++[a]else ready) done b=b7c nodes ready done b:=by
  intro b;split
  ·exact d0t h.dle
  ·rfl
 refine⟨by rw[List.length_set,h.ll],?_,?_,?_,?_,?_,?_⟩
 ·intro r hr;split at hr
  ·simp only[List.mem_append,List.mem_singleton]at hr;rcases hr with hr|rfl
   ·exact h.rn r hr
   ·exact ha
  ·exact h.rn r hr
 ·split
  ·rw[List.nodup_append];refine⟨h.nd,by simp,?_⟩;intro x hx y hy;simp only[List.mem_singleton]at hy;subst hy;exact λe=>gt (e▸hx)
  ·exact h.nd
 ·split
  ·have:=h.dle;simp;omega
  ·exact h.dle
 ·intro b hb b6;rw[a8,dv,b6v];have:=h.eq b hb b6;by_cases cB:a=b
  ·subst cB;rw[if_pos rfl,if_pos rfl];omega
  ·rw[if_neg cB,if_neg cB,Nat.add_zero];exact this
 ·intro b hb b6;have:a≠b:=λe=>by subst e;rw[hc]at b6;cases b6
  rw[a8,if_neg this];exact h.nc b hb b6
 ·intro b hb;rw[a8];by_cases cB:a=b
  ·subst cB;rw[if_pos rfl];split
   ·rename_i e;exact⟨λ_=>e,λ_=>by simp⟩
   ·rename_i e;exact⟨λhm=>absurd hm gt,λe'=>absurd e' e⟩
  ·rw[if_neg cB];rw[←h.zero b hb];split
   ·simp[Ne.symm cB]
   ·rfl
theorem a5l(l:List Nat)(S:List Nat)(x:Nat)(hx:x∉S):(l.filter λm=>decide (m∉S)).length=(l.filter λm=>decide (m∉S++[x])).length+l.count x:=by
 induction l with
 |nil=>rfl
 |cons a l ih=>
  simp only[List.filter_cons,List.count_cons];by_cases lY:a=x
  ·subst lY;simp[hx]at ih⊢;omega
  ·by_cases pR:a∈S
   ·simp[pR,lY]at ih⊢;omega
   ·simp[pR,lY]at ih⊢;omega
theorem Kahn.next(h:Kahn nodes left ready done L){x:Nat}(hx:ready[done]?=some x)(hL:∀a,a<nodes.length→cnt L a=(a35 nodes a).count x):Kahn nodes left ready (done+1) []:=by
 have hY:=(List.getElem?_eq_some_iff.1 hx).1;have ht:=a1a hx;have eJ:x∉ready.take done:=by
  intro hm;obtain⟨i,hi⟩:=List.mem_iff_getElem?.1 hm;rw[List.getElem?_take]at hi;split at hi
  case isFalse=>cases hi
  have:=(List.getElem?_inj (by omega) h.nd).1 (hi.trans hx.symm);omega
 refine⟨h.ll,h.rn,h.nd,by omega,?_,h.nc,h.zero⟩;intro a ha hc;have:=h.eq a ha hc;rw[hL a ha]at this;unfold b7c at this⊢;rw[ht];rw[a5l _ _ x eJ]at this;simp only[cnt,List.map_nil,List.count_nil];omega
theorem d5v{ready:List Nat}{done x a:Nat}(nd:ready.Nodup)(hx:ready[done]?=some x):(a35 nodes a).count x≤b7c nodes ready done a:=by
 have hY:=(List.getElem?_eq_some_iff.1 hx).1;have eJ:x∉ready.take done:=by
  intro hm;obtain⟨i,hi⟩:=List.mem_iff_getElem?.1 hm;rw[List.getElem?_take]at hi;split at hi
  case isFalse=>cases hi
  have:=(List.getElem?_inj (by omega) nd).1 (hi.trans hx.symm);omega
 unfold b7c;rw[a5l _ _ x eJ];omega
theorem Kahn.all(h:Kahn nodes left ready ready.length [])(oE:∀(i:Nat) (x:Nd),nodes[i]?=some x→a1g x.kind=true→∀m∈x.ins,m<i):nodes.length≤ready.length:=by
 have key:∀n a,a≤n→a<nodes.length→a∈ready:=by
  intro n
  induction n with
  |zero=>
   intro a gI ha;obtain rfl:a=0:=by omega
   rw[h.zero 0 ha];cases hc:a1g (a0y nodes 0)with
   |false=>exact h.nc 0 ha hc
   |true=>
    obtain⟨x,hx⟩:∃x,nodes[0]?=some x:=⟨_,List.getElem?_eq_getElem ha⟩
    have he:=h.eq 0 ha hc;have hk:a0y nodes 0=x.kind:=by simp[a0y,hx]
    rw[hk]at hc;have hi:a35 nodes 0=[]:=by
     simp only[a35,hx,Option.map_some,Option.getD_some];cases jL:x.ins with
     |nil=>rfl
     |cons m r=>have:=oE 0 x hx hc m (by simp[jL]);omega
    have:b7c nodes ready ready.length 0=0:=by simp[b7c,hi]
    omega
  |succ n ih=>
   intro a gI ha;rw[h.zero a ha];cases hc:a1g (a0y nodes a)with
   |false=>exact h.nc a ha hc
   |true=>
    obtain⟨x,hx⟩:∃x,nodes[a]?=some x:=⟨_,List.getElem?_eq_getElem ha⟩
    have he:=h.eq a ha hc;have hk:a0y nodes a=x.kind:=by simp[a0y,hx]
    rw[hk]at hc;have hi:a35 nodes a=x.ins:=a59 hx;have:b7c nodes ready ready.length a=0:=by unfold b7c;rw[hi,List.take_length,List.length_eq_zero_iff,List.filter_eq_nil_iff];intro m hm;have h1:=oE a x hx hc m hm;have h2:=ih m (by omega) (by omega);simp[h2]
    omega
 have:=b2f (l:=List.range nodes.length) (T:=ready) List.nodup_range (λa ha=>key a a (Nat.le_refl _) (by simpa using ha));simpa using this
theorem Kahn.bound(h:Kahn nodes left ready done L):ready.length≤nodes.length:=by have:=b2f h.nd (T:=List.range nodes.length) (λa ha=>by simpa using h.rn a ha);simpa using this
end
end Go.Pc
/- PcPerm: exchanging neighbours. Plain. -/
namespace Go.Pc
theorem c5j{l:List Nat}{j x y:Nat}(hj:l[j+1]?=some x)(hi:l[j]?=some y):((l.set (j+1) y).set j x).Perm l:=by
 induction l generalizing j with
 |nil=>simp at hj
 |cons a l ih=>
  cases j with
  |zero=>
   cases l with
   |nil=>simp at hj
   |cons b l=>simp only[List.getElem?_cons_succ,List.getElem?_cons_zero,Option.some.injEq]at hj hi;subst hj;subst hi;exact List.Perm.swap ..
  |succ j=>simp only[List.getElem?_cons_succ]at hj hi;simp only[List.set_cons_succ];exact(ih hj hi).cons a
def d4f(a b:Nat):Int:=if a<b then -1 else if b<a then 1 else 0
end Go.Pc
/- PcReach: which nets a net depends on; faults that are valid. Plain. -/
namespace Go.Pc
open Go.Ax
end Go.Pc
/- PcRun: the simulation, step by step. Plain. -/
namespace Go.Pc
open Go.Ax
section
variable {α:Type}{A:Alg α}{nodes:List Nd}{h:Hk α}
theorem c6c{n:Nat}{al:List α}:∀{l:List Nat} {p i m:Nat},l[i]?=some m→(a56 A h n al p l)[i]?=some (h.pin n (p+i) (al.getD m A.z))
 | [],p,i,m,hm=>by simp at hm
 |a::l,p,0,m,hm=>by simp at hm;subst hm;rfl
 |a::l,p,i+1,m,hm=>by simp only[List.getElem?_cons_succ]at hm;simp only[a56,List.getElem?_cons_succ,c6c (p:=p+1) hm];rw[show p+1+i=p+(i+1) by omega]
theorem c6b{n:Nat}{al:List α}:∀(l:List Nat) (p:Nat),(a56 A h n al p l).length=l.length
 | [],_=>rfl
 |a::l,p=>by simp[a56,c6b l]
theorem c3f{al:List α}{n:Nat}:(a5u A nodes h al n).length=(a35 nodes n).length:=c6b _ _
theorem c3d{al:List α}{n i m:Nat}{v:α}(hm:(a35 nodes n)[i]?=some m)(hv:al[m]?=some v):(a5u A nodes h al n).take (i+1)=(a5u A nodes h al n).take i++[h.pin n i v]:=by have:=c6c (A:=A) (h:=h) (n:=n) (al:=al) (p:=0) hm;rw[Nat.zero_add,List.getD,hv]at this;exact a1a this
theorem b4q:∀{is:List Nat} {vs:List α} {al:List α} {a:Nat} {v:α},is.length=vs.length→a2f al (is++[a]) (vs++[v])=(a2f al is vs).set a v
 | [],[],al,a,v,_=>rfl
 | [],_::_,_,_,_,h=>by simp at h
 |_::_,[],_,_,_,h=>by simp at h
 |i::is,w::vs,al,a,v,h=>by simp only[List.cons_append,a2f];exact b4q (by simpa using h)
theorem a79:∀(is:List Nat) (vs:List α) (al:List α),(a2f al is vs).length=al.length
 | [],vs,al=>by cases vs<;>rfl
 |i::is,[],al=>rfl
 |i::is,v::vs,al=>by simp[a2f,a79 is vs]
theorem b4p{is:List Nat}{vs al:List α}{i a:Nat}{v:α}(h1:is[i]?=some a)(h2:vs[i]?=some v):a2f al (is.take (i+1)) (vs.take (i+1))=(a2f al (is.take i) (vs.take i)).set a v:=by rw[a1a h1,a1a h2];have l1:=(List.getElem?_eq_some_iff.1 h1).1;have l2:=(List.getElem?_eq_some_iff.1 h2).1;exact b4q (by rw[List.length_take,List.length_take];omega)
theorem c5q(al:List α)(n:Nat):(stepG A nodes h al n).length=al.length:=by unfold stepG;simp
theorem d26(l:List Nat)(al:List α):(l.foldl (stepG A nodes h) al).length=al.length:=by
 induction l generalizing al with
 |nil=>rfl
 |cons a l ih=>rw[List.foldl_cons,ih,c5q]
theorem c84{l:List Nat}{al:List α}{i n:Nat}(hn:l[i]?=some n):(l.take (i+1)).foldl (stepG A nodes h) al=stepG A nodes h ((l.take i).foldl (stepG A nodes h) al) n:=by rw[a1a hn,List.foldl_append];rfl
end
end Go.Pc
/- PcLev: levels of nodes; orders in which a3l node stands behind what it d0p. Plain. -/
namespace Go.Pc
open Go.Ax
structure Lev(nodes:List Nd)(lv ready:List Nat)(done:Nat)(L:List (Nat×Nat)):Prop where
 old:∀a,a<nodes.length→a1g (a0y nodes a)=true→∀m∈a35 nodes a,m∈ready.take done→lv.getD m 0<lv.getD a 0
 now:∀l∈L,a1g (a0y nodes l.1)=true→∀x,ready[done]?=some x→lv.getD x 0<lv.getD l.1 0
theorem Lev.start(nodes:List Nd)(lv ready:List Nat):Lev nodes lv ready 0 []:=⟨λa _ _ m _ hm=>by simp at hm,λl hl=>by simp at hl⟩
section
variable {nodes:List Nd}{lv left ready:List Nat}{done:Nat}{L:List (Nat×Nat)}
theorem Lev.skip(h:Lev nodes lv ready done L){a p:Nat}(hc:a1g (a0y nodes a)=false):Lev nodes lv ready done (L++[(a,p)]):=by
 refine⟨h.old,λl hl b8=>?_⟩;rcases List.mem_append.1 hl with hl|hl
 ·exact h.now l hl b8
 ·rw[List.mem_singleton.1 hl]at b8;rw[hc]at b8;cases b8
theorem b18(lv:List Nat)(a v b:Nat)(ha:a<lv.length):(lv.set a v).getD b 0=if a=b then v else lv.getD b 0:=by
 simp only[List.getD_eq_getElem?_getD,List.getElem?_set];by_cases cB:a=b
 ·subst cB;simp[ha]
 ·simp[cB]
theorem Lev.dec(h:Lev nodes lv ready done L){a p x va vx:Nat}(hx:ready[done]?=some x)(gt:a∉ready)(iP:lv[a]?=some va)(gT:lv[x]?=some vx){dp:List Nat}(hr:dp=ready∨dp=ready++[a]) :
 Lev nodes (lv.set a (max va (vx+1))) dp done (L++[(a,p)]):=by
 have fK:=(List.getElem?_eq_some_iff.1 iP).1;have hY:=(List.getElem?_eq_some_iff.1 hx).1;have qx:x∈ready:=List.mem_of_getElem? hx;have lY:a≠x:=λe=>gt (e▸qx);have ea:lv.getD a 0=va:=by rw[List.getD,iP];rfl
 have ex:lv.getD x 0=vx:=by rw[List.getD,gT];rfl
 have ht:dp.take done=ready.take done:=by
  rcases hr with rfl|rfl
  ·rfl
  ·exact List.take_append_of_le_length (by omega)
 have eN:dp[done]?=some x:=by
  rcases hr with rfl|rfl
  ·exact hx
  ·rw[List.getElem?_append_left hY];exact hx
 have up:∀b,lv.getD b 0≤(lv.set a (max va (vx+1))).getD b 0:=by
  intro b;rw[b18 _ _ _ _ fK];split
  ·rename_i e;subst e;rw[ea];exact Nat.le_max_left _ _
  ·exact Nat.le_refl _
 refine⟨?_,?_⟩
 ·intro b hb b6 m hm dV;rw[ht]at dV;have qY:a≠m:=λe=>gt (e▸List.mem_of_mem_take dV);rw[b18 _ _ _ m fK,if_neg qY];exact Nat.lt_of_lt_of_le (h.old b hb b6 m hm dV) (up b)
 ·intro l hl b8 y hy;rw[eN]at hy;cases hy;rw[b18 _ _ _ x fK,if_neg lY];rcases List.mem_append.1 hl with hl|hl
  ·exact Nat.lt_of_lt_of_le (h.now l hl b8 x hx) (up _)
  ·rw[List.mem_singleton.1 hl,b18 _ _ _ _ fK,if_pos rfl,ex];exact Nat.lt_of_lt_of_le (Nat.lt_succ_self _) (Nat.le_max_right _ _)
theorem Lev.next(h:Lev nodes lv ready done L){x:Nat}(hx:ready[done]?=some x)(hL:∀a,a<nodes.length→cnt L a=(a35 nodes a).count x):Lev nodes lv ready (done+1) []:=by
 refine⟨?_,λl hl=>by simp at hl⟩;intro a ha hc m hm dV;rw[a1a hx]at dV;rcases List.mem_append.1 dV with dV|dV
 ·exact h.old a ha hc m hm dV
 ·rw[List.mem_singleton.1 dV]at hm⊢;have h1:=hL a ha;have h2:0<(a35 nodes a).count x:=List.count_pos_iff.2 hm;rw[←h1]at h2;unfold Pc.cnt at h2;obtain⟨l,hl,rfl⟩:=List.mem_map.1 (List.count_pos_iff.1 h2);exact h.now l hl hc x hx
def Rises(nodes:List Nd)(lv:List Nat):Prop:=∀a,a<nodes.length→a1g (a0y nodes a)=true→∀m∈a35 nodes a,m<nodes.length→lv.getD m 0<lv.getD a 0
theorem Lev.all(h:Lev nodes lv ready ready.length [])(hk:Kahn nodes left ready ready.length [])(aT:nodes.length≤ready.length):Rises nodes lv:=by
 intro a ha hc m hm fP;refine h.old a ha hc m hm ?_;rw[List.take_length];by_cases dV:m∈ready
 ·exact dV
 ·have hs:=b2f (l:=m::ready) (T:=List.range nodes.length) (List.nodup_cons.2 ⟨dV,hk.nd⟩) (λb hb=>by
   rcases List.mem_cons.1 hb with rfl|hb
   ·simpa using fP
   ·simpa using hk.rn b hb)
  simp at hs;omega
end
def e1u(nodes:List Nd)(ord:List Nat):Prop:=∀(i n:Nat),ord[i]?=some n→a1g (a0y nodes n)=true→∀m∈a35 nodes n,m∈ord.take i
theorem Rises.topo{nodes:List Nd}{lv ord:List Nat}(h:Rises nodes lv)(hp:ord.Perm (List.range nodes.length))(hs:ord.Pairwise λx y=>lv.getD x 0≤lv.getD y 0)(bS:∀n,n<nodes.length→∀m∈a35 nodes n,m<nodes.length):e1u nodes ord:=by
 intro i n hi hc m hm;have hn:n<nodes.length:=by have:=hp.mem_iff.1 (List.mem_of_getElem? hi);simpa using this
 have fP:=bS n hn m hm;obtain⟨j,hj⟩:=List.mem_iff_getElem?.1 (hp.mem_iff.2 (List.mem_range.2 fP));have ak:=h n hn hc m hm fP;have cZ:=(List.getElem?_eq_some_iff.1 hi).1;have bg:=(List.getElem?_eq_some_iff.1 hj).1;by_cases fk:j<i
 ·exact List.mem_iff_getElem?.2 ⟨j,by rw[List.getElem?_take,if_pos fk];exact hj⟩
 ·exfalso;by_cases bc:i=j
  ·subst bc;rw[hi]at hj;cases hj;omega
  ·have:=List.pairwise_iff_getElem.1 hs i j cZ bg (by omega);rw[(List.getElem?_eq_some_iff.1 hi).2,(List.getElem?_eq_some_iff.1 hj).2]at this;omega
theorem Cir.wf.inAt{c:Cir}(h:c.wf):∀n,n<c.nodes.length→∀m∈a35 c.nodes n,m<c.nodes.length:=by
 intro n hn m hm;obtain⟨x,hx⟩:∃x,c.nodes[n]?=some x:=⟨_,List.getElem?_eq_getElem hn⟩
 rw[a59 hx]at hm;exact h.ins x (List.mem_of_getElem? hx) m hm
/-! ### insertion -/
def SortJ(key:Nat→Nat)(d:List Nat)(i j:Nat):Prop:=∀p q x y,p<q→q≤i→q≠j→d[p]?=some x→d[q]?=some y→key x≤key y
def SortI(key:Nat→Nat)(d:List Nat)(i:Nat):Prop:=∀p q x y,p<q→q<i→d[p]?=some x→d[q]?=some y→key x≤key y
theorem SortI.start{key:Nat→Nat}{d:List Nat}{i:Nat}(h:SortI key d i):SortJ key d i i:=λp q x y h1 h2 h3=>h p q x y h1 (by omega)
theorem SortI.one{key:Nat→Nat}{d:List Nat}:SortI key d 1:=λp q x y h1 h2=>by omega
theorem SortJ.stop{key:Nat→Nat}{d:List Nat}{i j:Nat}(h:SortJ key d i j)(hj:j=0∨∃x y,d[j-1]?=some x∧d[j]?=some y∧key x≤key y):SortI key d (i+1):=by
 intro p q x y h1 h2 hx hy;by_cases hq:q=j
 ·subst hq;rcases hj with rfl|⟨x',y',h3,h4,h5⟩
  ·omega
  ·rw[hy]at h4;cases h4;by_cases hp:p=q-1
   ·subst hp;rw[hx]at h3;cases h3;exact h5
   ·exact Nat.le_trans (h p (q-1) x x' (by omega) (by omega) (by omega) hx h3) h5
 ·exact h p q x y h1 (by omega) hq hx hy
theorem SortJ.swap{key:Nat→Nat}{d:List Nat}{i j:Nat}(h:SortJ key d i (j+1))(fk:j+1≤i){x y:Nat}(hx:d[j]?=some x)(hy:d[j+1]?=some y)(ak:key y<key x):SortJ key ((d.set (j+1) x).set j y) i j:=by
 have bg:=(List.getElem?_eq_some_iff.1 hy).1;have hg:∀p,((d.set (j+1) x).set j y)[p]?=if p=j then some y else if p=j+1 then some x else d[p]?:=by
  intro p;rw[List.getElem?_set,List.getElem?_set];simp only[List.length_set];by_cases h1:j=p
  ·subst h1;simp;omega
  ·by_cases h2:j+1=p
   ·subst h2;simp;omega
   ·simp[h1,h2,Ne.symm h1,Ne.symm h2]
 intro p q u v h1 h2 h3 hu hv;rw[hg]at hu hv;rw[if_neg h3]at hv;by_cases hq:q=j+1
 ·rw[if_pos hq]at hv;cases hv;by_cases hp:p=j
  ·rw[if_pos hp]at hu;cases hu;omega
  ·rw[if_neg hp,if_neg (by omega)]at hu;exact h p j u x (by omega) (by omega) (by omega) hu hx
 ·rw[if_neg hq]at hv;by_cases hp:p=j
  ·rw[if_pos hp]at hu;cases hu;exact h (j+1) q y v (by omega) h2 (by omega) hy hv
  ·rw[if_neg hp]at hu;by_cases dw:p=j+1
   ·rw[if_pos dw]at hu;cases hu;exact h j q x v (by omega) h2 (by omega) hx hv
   ·rw[if_neg dw]at hu;exact h p q u v h1 h2 (by omega) hu hv
theorem SortI.pairwise{key:Nat→Nat}{d:List Nat}(h:SortI key d d.length):d.Pairwise λx y=>key x≤key y:=by rw[List.pairwise_iff_getElem];intro i j hi hj bc;exact h i j _ _ bc hj (List.getElem?_eq_getElem hi) (List.getElem?_eq_getElem hj)
end Go.Pc
/- PcLog: gates over the values 0, 1, X and Z; they are the gates over pairs of bits. Plain. -/
namespace Go.Pc
open Go.Ax
def a3r(v:Nat):Nat:=min v 2
def b0l(v:Nat):Nat:=if v≤1 then 1-v else 2
def a4y(low a7:Nat):Nat→List Nat→Nat
 |out,[]=>out
 |out,v::r=>if v=low then low else a4y low a7 (if v=a7 then out else 2) r
def b1i:Nat→List Nat→Nat
 |out,[]=>out
 |out,v::r=>if v≤1 then b1i (out^^^v) r else 2
def b27(s a b:Nat):Nat:=if s=0 then a3r a else if s=1 then a3r b else if a=b then a3r a else 2
def b7e(e d:Nat):Nat:=if e=0 then 3 else if e=1 then a3r d else 2
def c50(l:List Nat):Nat:=match l.findIdx? (λv=>decide (v≠3))with
 |none=>3
 |some i=>if(decide (0∈l)&&decide (1∈l))||l.any (λv=>decide (a37 v=2))then 2 else l.getD i 0
def a2y(k:Nat)(l:List Nat):Nat:=match k with
 |1=>0
 |2=>1
 |3=>a3r (l.getD 0 2)
 |4=>b0l (l.getD 0 2)
 |5=>a4y 0 1 1 l
 |6=>b0l (a4y 0 1 1 l)
 |7=>a4y 1 0 0 l
 |8=>b0l (a4y 1 0 0 l)
 |9=>b1i 0 l
 |10=>b0l (b1i 0 l)
 |11=>b27 (l.getD 0 2) (l.getD 1 2) (l.getD 2 2)
 |12=>b7e (l.getD 0 2) (l.getD 1 2)
 |13=>c50 l
 |_=>2
def a6f(k:Nat)(l:List Nat):Nat:=if l.length<a1s k∨a21 k<l.length then 2 else a2y k l
def vR(v:Nat):V2:=b97 (a0w v)
theorem c0k(P:Nat→Prop)(h0:P 0)(h1:P 1)(h2:P 2)(h3:P 3){v:Nat}(hv:v≤3):P v:=by
 have:v=0∨v=1∨v=2∨v=3:=by omega
 rcases this with rfl|rfl|rfl|rfl<;>assumption
theorem c2r{v:Nat}(hv:v≤3):a0w (a3r v)=b97 (a0w v)∧a3r v≤3:=c0k (λv=>a0w (a3r v)=b97 (a0w v)∧a3r v≤3) (by decide) (by decide) (by decide) (by decide) hv
theorem c6j{v:Nat}(hv:v≤3):a0w (b0l v)=c5a (b97 (a0w v))∧b0l v≤3:=c0k (λv=>a0w (b0l v)=c5a (b97 (a0w v))∧b0l v≤3) (by decide) (by decide) (by decide) (by decide) hv
theorem a9u{v:Nat}(hv:v≤2):a0w (b0l v)=c5a (a0w v)∧b0l v≤3:=by
 have:v=0∨v=1∨v=2:=by omega
 rcases this with rfl|rfl|rfl<;>decide
theorem c95:∀(l:List V2),l.foldl c2v (false,true)=(false,true)
 | []=>rfl
 |a::l=>by rw[List.foldl_cons,show c2v (false,true) a=(false,true) by simp[c2v]];exact c95 l
theorem d42:∀(l:List V2),l.foldl vOr (true,false)=(true,false)
 | []=>rfl
 |a::l=>by rw[List.foldl_cons,show vOr (true,false) a=(true,false) by simp[vOr]];exact d42 l
theorem b94:∀(l:List V2),l.foldl c2u (false,false)=(false,false)
 | []=>rfl
 |a::l=>by rw[List.foldl_cons,show c2u (false,false) a=(false,false) by simp[c2u]];exact b94 l
theorem a9c:∀(l:List Nat) (out:Nat),(out=1∨out=2)→(∀v∈l,v≤3)→(l.map vR).foldl c2v (a0w out)=a0w (a4y 0 1 out l)∧a4y 0 1 out l≤2
 | [],out,ho,_=>by rcases ho with rfl|rfl<;>decide
 |v::l,out,ho,hv=>by
  have hl:=λv h=>hv v (List.mem_cons_of_mem _ h);rw[List.map_cons,List.foldl_cons];refine c0k (λv=>(l.map vR).foldl c2v (c2v (a0w out) (vR v))=a0w (a4y 0 1 out (v::l))∧a4y 0 1 out (v::l)≤2) ?_ ?_ ?_ ?_ (hv v (List.mem_cons_self ..))
  ·have:c2v (a0w out) (vR 0)=(false,true):=by rcases ho with rfl|rfl<;>decide
   rw[this,c95];simp only[a4y,if_true];decide
  ·have:c2v (a0w out) (vR 1)=a0w out:=by rcases ho with rfl|rfl<;>decide
   rw[this];simp only[a4y];exact a9c l out ho hl
  ·have:c2v (a0w out) (vR 2)=a0w 2:=by rcases ho with rfl|rfl<;>decide
   rw[this];simp only[a4y];exact a9c l 2 (.inr rfl) hl
  ·have:c2v (a0w out) (vR 3)=a0w 2:=by rcases ho with rfl|rfl<;>decide
   rw[this];simp only[a4y];exact a9c l 2 (.inr rfl) hl
theorem b20:∀(l:List Nat) (out:Nat),(out=0∨out=2)→(∀v∈l,v≤3)→(l.map vR).foldl vOr (a0w out)=a0w (a4y 1 0 out l)∧a4y 1 0 out l≤2
 | [],out,ho,_=>by rcases ho with rfl|rfl<;>decide
 |v::l,out,ho,hv=>by
  have hl:=λv h=>hv v (List.mem_cons_of_mem _ h);rw[List.map_cons,List.foldl_cons];refine c0k (λv=>(l.map vR).foldl vOr (vOr (a0w out) (vR v))=a0w (a4y 1 0 out (v::l))∧a4y 1 0 out (v::l)≤2) ?_ ?_ ?_ ?_ (hv v (List.mem_cons_self ..))
  ·have:vOr (a0w out) (vR 0)=a0w out:=by rcases ho with rfl|rfl<;>decide
   rw[this];simp only[a4y];exact b20 l out ho hl
  ·have:vOr (a0w out) (vR 1)=(true,false):=by rcases ho with rfl|rfl<;>decide
   rw[this,d42];simp only[a4y,if_true];decide
  ·have:vOr (a0w out) (vR 2)=a0w 2:=by rcases ho with rfl|rfl<;>decide
   rw[this];simp only[a4y];exact b20 l 2 (.inr rfl) hl
  ·have:vOr (a0w out) (vR 3)=a0w 2:=by rcases ho with rfl|rfl<;>decide
   rw[this];simp only[a4y];exact b20 l 2 (.inr rfl) hl
theorem b0z:∀(l:List Nat) (out:Nat),(out=0∨out=1)→(∀v∈l,v≤3)→(l.map vR).foldl c2u (a0w out)=a0w (b1i out l)∧b1i out l≤2
 | [],out,ho,_=>by rcases ho with rfl|rfl<;>decide
 |v::l,out,ho,hv=>by
  have hl:=λv h=>hv v (List.mem_cons_of_mem _ h);rw[List.map_cons,List.foldl_cons];refine c0k (λv=>(l.map vR).foldl c2u (c2u (a0w out) (vR v))=a0w (b1i out (v::l))∧b1i out (v::l)≤2) ?_ ?_ ?_ ?_ (hv v (List.mem_cons_self ..))
  ·have:c2u (a0w out) (vR 0)=a0w out:=by rcases ho with rfl|rfl<;>decide
   rw[this];simp only[b1i,Nat.xor_zero];exact b0z l out ho hl
  ·have:c2u (a0w out) (vR 1)=a0w (out^^^1):=by rcases ho with rfl|rfl<;>decide
   rw[this];simp only[b1i];exact b0z l (out^^^1) (by rcases ho with rfl|rfl<;>decide) hl
  ·have:c2u (a0w out) (vR 2)=(false,false):=by rcases ho with rfl|rfl<;>decide
   rw[this,b94];exact⟨rfl,by show(2:Nat)≤2;decide⟩
  ·have:c2u (a0w out) (vR 3)=(false,false):=by rcases ho with rfl|rfl<;>decide
   rw[this,b94];exact⟨rfl,by show(2:Nat)≤2;decide⟩
theorem d15{s a b:Nat}(hs:s≤3)(ha:a≤3)(hb:b≤3):a0w (b27 s a b)=e22 (vR s) (vR a) (vR b)∧b27 s a b≤3:=by
 have h:∀s:Fin 4,∀a:Fin 4,∀b:Fin 4,a0w (b27 s a b)=e22 (vR s) (vR a) (vR b)∧b27 s a b≤3:=by decide
 exact h ⟨s,by omega⟩ ⟨a,by omega⟩ ⟨b,by omega⟩
theorem d01{e d:Nat}(he:e≤3)(hd:d≤3):a0w (b7e e d)=e21 (vR e) (vR d)∧b7e e d≤3:=by
 have h:∀e:Fin 4,∀d:Fin 4,a0w (b7e e d)=e21 (vR e) (vR d)∧b7e e d≤3:=by decide
 exact h ⟨e,by omega⟩ ⟨d,by omega⟩
theorem d4h:∀(l:List Nat) (s:Bool×Bool×Bool),(∀v∈l,v≤3)→(l.map a0w).foldl c2t s=(s.1||decide (1∈l),s.2.1||decide (0∈l),s.2.2||decide (2∈l))
 | [],s,_=>by simp
 |v::l,s,hv=>by
  have hl:=λv h=>hv v (List.mem_cons_of_mem _ h);rw[List.map_cons,List.foldl_cons,d4h l _ hl];obtain⟨a,b,c⟩:=s;refine c0k (λv=>((c2t (a,b,c) (a0w v)).1||decide (1∈l),(c2t (a,b,c) (a0w v)).2.1||decide (0∈l),(c2t (a,b,c) (a0w v)).2.2||decide (2∈l))=(a||decide (1∈v::l),b||decide (0∈v::l),c||decide (2∈v::l))) ?_ ?_ ?_ ?_ (hv v (List.mem_cons_self ..)) <;>
   simp[c2t,a0w,a37,List.mem_cons]
theorem d2z(l:List Nat)(hv:∀v∈l,v≤3):a0w (c50 l)=e49 (l.map a0w)∧c50 l≤3:=by
 have hx:l.any (λv=>decide (a37 v=2))=decide (2∈l):=by
  rw[Bool.eq_iff_iff,List.any_eq_true,decide_eq_true_eq];constructor
  ·rintro⟨v,h,hc⟩
   have h3:=hv v h;have:v=2:=by revert hc h3;revert v;intro v _ hc h3;exact c0k (λv=>decide (a37 v=2)=true→v=2) (by decide) (by decide) (by decide) (by decide) h3 hc
   exact this▸h
  ·intro h;exact⟨2,h,by decide⟩
 unfold e49 c50;rw[d4h l _ hv,hx];cases hf:l.findIdx? (λv=>decide (v≠3))with
 |none=>
  have hn:=List.findIdx?_eq_none_iff.1 hf;have h1:∀k,k≠3→k∉l:=λk hk hm=>by have:=hn k hm;simp[hk]at this
  simp only[h1 0 (by decide),h1 1 (by decide),h1 2 (by decide),decide_false,Bool.or_false];decide
 |some i=>
  obtain⟨hi,hp,_⟩:=List.findIdx?_eq_some_iff_getElem.1 hf;have hm:l.getD i 0∈l:=by rw[List.getD,List.getElem?_eq_getElem hi];exact List.getElem_mem hi
  have he:l.getD i 0≠3:=by rw[List.getD,List.getElem?_eq_getElem hi];simpa using hp
  have h3:=hv _ hm;show a0w (if _ then 2 else l.getD i 0)=_∧(if _ then 2 else l.getD i 0)≤3;generalize l.getD i 0=w at hm he h3⊢;have hw:w=0∨w=1∨w=2:=by omega
  simp only[Bool.false_or];by_cases h2:2∈l
  ·simp only[h2,decide_true,Bool.or_true,if_true];cases decide (1∈l)<;>cases decide (0∈l)<;>decide
  ·simp only[h2,decide_false,Bool.or_false];rcases hw with rfl|rfl|rfl
   ·simp only[hm,decide_true,Bool.true_and];cases decide (1∈l)<;>decide
   ·simp only[hm,decide_true,Bool.and_true];cases decide (0∈l)<;>decide
   ·exact absurd hm h2
theorem e54(l:List Nat):(l.map a0w).map b97=l.map vR:=by rw[List.map_map];rfl
theorem a8g(l:List Nat)(i:Nat)(hi:i<l.length):(l.map vR).getD i (false,false)=vR (l.getD i 2):=by simp only[List.getD_eq_getElem?_getD,List.getElem?_map,List.getElem?_eq_getElem hi,Option.map_some,Option.getD_some]
theorem d6n(l:List Nat)(hv:∀v∈l,v≤3)(i:Nat):l.getD i 2≤3:=by
 simp only[List.getD_eq_getElem?_getD];cases h:l[i]? with
 |none=>decide
 |some v=>exact hv v (List.mem_of_getElem? h)
theorem c8d(k:Nat)(l:List Nat)(hv:∀v∈l,v≤3):a0w (a6f k l)=d9d k (l.map a0w)∧a6f k l≤3:=by
 unfold a6f d9d;rw[List.length_map];split
 ·decide
 rename_i aj;have lo:a1s k≤l.length:=by omega
 by_cases h13:k=13
 ·subst h13;rw[if_pos rfl];exact d2z l hv
 rw[if_neg h13,e54];have g:=d6n l hv;unfold a2y;split
 ·exact⟨rfl,by decide⟩
 ·exact⟨rfl,by decide⟩
 ·show a0w (a3r (l.getD 0 2))=(l.map vR).getD 0 (false,false)∧_;rw[a8g _ _ (Nat.lt_of_lt_of_le (by decide) lo)];exact c2r (g 0)
 ·show a0w (b0l (l.getD 0 2))=c5a ((l.map vR).getD 0 (false,false))∧_;rw[a8g _ _ (Nat.lt_of_lt_of_le (by decide) lo)];exact c6j (g 0)
 ·have:=a9c l 1 (.inl rfl) hv;exact⟨this.1.symm,by omega⟩
 ·have:=a9c l 1 (.inl rfl) hv;show a0w (b0l (a4y 0 1 1 l))=c5a ((l.map vR).foldl c2v (a0w 1))∧_;rw[this.1];exact a9u this.2
 ·have:=b20 l 0 (.inl rfl) hv;exact⟨this.1.symm,by omega⟩
 ·have:=b20 l 0 (.inl rfl) hv;show a0w (b0l (a4y 1 0 0 l))=c5a ((l.map vR).foldl vOr (a0w 0))∧_;rw[this.1];exact a9u this.2
 ·have:=b0z l 0 (.inl rfl) hv;exact⟨this.1.symm,by omega⟩
 ·have:=b0z l 0 (.inl rfl) hv;show a0w (b0l (b1i 0 l))=c5a ((l.map vR).foldl c2u (a0w 0))∧_;rw[this.1];exact a9u this.2
 ·show a0w (b27 (l.getD 0 2) (l.getD 1 2) (l.getD 2 2))=e22 ((l.map vR).getD 0 (false,false)) ((l.map vR).getD 1 (false,false)) ((l.map vR).getD 2 (false,false))∧_;rw[a8g _ _ (Nat.lt_of_lt_of_le (by decide) lo),a8g _ _ (Nat.lt_of_lt_of_le (by decide) lo),a8g _ _ (Nat.lt_of_lt_of_le (by decide) lo)];exact d15 (g 0) (g 1) (g 2)
 ·show a0w (b7e (l.getD 0 2) (l.getD 1 2))=e21 ((l.map vR).getD 0 (false,false)) ((l.map vR).getD 1 (false,false))∧_;rw[a8g _ _ (Nat.lt_of_lt_of_le (by decide) lo),a8g _ _ (Nat.lt_of_lt_of_le (by decide) lo)];exact d01 (g 0) (g 1)
 ·exact absurd rfl h13
 ·refine⟨?_,by decide⟩;unfold d3j;split<;>first|rfl|(exfalso;simp_all)
end Go.Pc
/- PcTwo: the simulation over values; what is laid into the nets before it begins does not matter. Plain. -/
namespace Go.Pc
open Go.Ax
theorem d2s(v:Nat):a37 v≤3:=by unfold a37;split<;>omega
theorem c2e{v:Nat}(h:v≤3):a37 v=v:=by unfold a37;rw[if_neg (by omega)]
theorem c6v{l:List Nat}(h:∀v∈l,v≤3):l.map a37=l:=by have:=List.map_congr_left (f:=a37) (g:=λv=>v) (l:=l) (λv hv=>c2e (h v hv));rw[this,List.map_id']
def nAlg:Alg Nat:=⟨λk l=>a6f k (l.map a37),0,λv=>v⟩
theorem c1p(k:Nat)(l:List Nat)(h:∀v∈l,v≤3):a6f k l≤3:=(c8d k l h).2
section
variable {α:Type}{A B:Alg α}(oe:A.ev=B.ev){nodes:List Nd}{h:Hk α}
end
end Go.Pc
/- PcDet: what a pattern detects, by values: the responses of the two runs contradict each other. Plain. -/
namespace Go.Pc
open Go.Ax
def e43(h:Hk Nat):Prop:=(∀n v,v≤3→h.net n v≤3)∧∀n p v,v≤3→h.pin n p v≤3
theorem e0u:e43 hk0:=⟨λ_ _ h=>h,λ_ _ _ h=>h⟩
theorem c21{l:List Nat}(h:∀v∈l,v≤3)(n:Nat):l.getD n 0≤3:=by
 rw[List.getD];cases hn:l[n]? with
 |none=>decide
 |some v=>exact h v (List.mem_of_getElem? hn)
theorem e0g(k:Nat)(l:List Nat):nAlg.ev k l≤3:=c1p k _ (λv hv=>by obtain⟨w,_,rfl⟩:=List.mem_map.1 hv;exact d2s w)
theorem d55{nodes:List Nd}{h:Hk Nat}(hh:e43 h){al:List Nat}(hn:∀v∈al,v≤3)(n:Nat):∀v∈stepG nAlg nodes h al n,v≤3:=by
 intro v hv;unfold stepG at hv;rcases List.mem_or_eq_of_mem_set hv with h1|h1
 ·exact hn v h1
 ·rw[h1];refine hh.1 _ _ ?_;split
  ·exact e0g _ _
  ·exact c21 hn n
theorem c85{nodes:List Nd}{h:Hk Nat}(hh:e43 h):∀(ord:List Nat) (al:List Nat),(∀v∈al,v≤3)→∀v∈ord.foldl (stepG nAlg nodes h) al,v≤3
 | [],al,hn=>hn
 |x::ord,al,hn=>by rw[List.foldl_cons];exact c85 hh ord _ (d55 hh hn x)
theorem c04:∀(is vs N:List Nat),(∀v∈N,v≤3)→(∀v∈vs,v≤3)→∀v∈a2f N is vs,v≤3
 | [],vs,N,h,_=>by cases vs<;>exact h
 |_::_,[],N,h,_=>h
 |i::is,w::vs,N,h,hv=>by
  simp only[a2f];refine c04 is vs _ (λv hm=>?_) (λv hm=>hv v (List.mem_cons_of_mem _ hm));rcases List.mem_or_eq_of_mem_set hm with h1|h1
  ·exact h v h1
  ·rw[h1];exact hv w (List.mem_cons_self ..)
theorem d12{nodes:List Nd}{h:Hk Nat}(hh:e43 h)(ord ins sts vi vs:List Nat)(hi:∀v∈vi,v≤3)(hs:∀v∈vs,v≤3):∀v∈c6q nAlg nodes h ord ins sts vi vs,v≤3:=c85 hh _ _ (c04 _ _ _ (c04 _ _ _ (λv hv=>by rw[List.eq_of_mem_replicate hv];show(0:Nat)≤3;decide) hi) hs)
structure Sim.good(S:Sim):Prop where
 perm:S.ord.Perm (List.range S.nodes.length)
 topo:e1u S.nodes S.ord
 comb:∀n,n<S.nodes.length→a0y S.nodes n≠0∧a0y S.nodes n≠14→a1g (a0y S.nodes n)=true
 inn:∀n,n<S.nodes.length→∀m∈a35 S.nodes n,m<S.nodes.length
 ins:∀n,n∈S.ins↔n<S.nodes.length∧a0y S.nodes n=0
 sts:∀n,n∈S.sts↔n<S.nodes.length∧a0y S.nodes n=14
 dff:∀n∈S.sts,a35 S.nodes n≠[]
 outs:∀n∈S.outs,n<S.nodes.length
section
variable {S:Sim}(hS:S.good){p:Pat}(qP:S.ins.length=p.ins.length)(gn:S.sts.length=p.sts.length)
include hS qP gn
end
end Go.Pc
/- PcMono: more is known, no less is found: a run whose inputs tell more gives nets that tell more. Plain. -/
namespace Go.Pc
open Go.Ax
def le2(a b:Nat):Prop:=a=b∨a=2
def lel:List Nat→List Nat→Prop
 | [],[]=>True
 |a::l,b::m=>le2 a b∧lel l m
 |_,_=>False
theorem lel.rfl':∀l:List Nat,lel l l
 | []=>trivial
 |a::l=>⟨.inl rfl,lel.rfl' l⟩
theorem lel.len:∀{l m:List Nat},lel l m→l.length=m.length
 | [],[],_=>rfl
 |a::l,b::m,h=>by simp[lel.len h.2]
 | [],b::m,h=>h.elim
 |a::l,[],h=>h.elim
theorem lel.getD(d:Nat):∀{l m:List Nat},lel l m→∀i,le2 (l.getD i d) (m.getD i d)
 | [],[],_,i=>.inl rfl
 |a::l,b::m,h,0=>h.1
 |a::l,b::m,h,i+1=>by simpa using lel.getD d h.2 i
 | [],b::m,h,_=>h.elim
 |a::l,[],h,_=>h.elim
theorem lel.set{v w:Nat}(hv:le2 v w):∀{l m:List Nat},lel l m→∀i,lel (l.set i v) (m.set i w)
 | [],[],_,i=>trivial
 |a::l,b::m,h,0=>⟨hv,h.2⟩
 |a::l,b::m,h,i+1=>⟨h.1,lel.set hv h.2 i⟩
 | [],b::m,h,_=>h.elim
 |a::l,[],h,_=>h.elim
theorem lel.map{f g:Nat→Nat}(hf:∀a b,le2 a b→le2 (f a) (g b)):∀{l m:List Nat},lel l m→lel (l.map f) (m.map g)
 | [],[],_=>trivial
 |a::l,b::m,h=>⟨hf _ _ h.1,lel.map hf h.2⟩
 | [],b::m,h=>h.elim
 |a::l,[],h=>h.elim
theorem c78{α:Type}{f g:α→Nat}:∀(l:List α),(∀x∈l,le2 (f x) (g x))→lel (l.map f) (l.map g)
 | [],_=>trivial
 |a::l,h=>⟨h a (List.mem_cons_self ..),c78 l λx hx=>h x (List.mem_cons_of_mem _ hx)⟩
theorem lel.eq:∀{l m:List Nat},lel l m→2∉l→l=m
 | [],[],_,_=>rfl
 |a::l,b::m,h,h2=>by
  simp only[List.mem_cons,not_or]at h2;rw[lel.eq h.2 h2.2];rcases h.1 with e|e
  ·rw[e]
  ·exact absurd e.symm h2.1
 | [],b::m,h,_=>h.elim
 |a::l,[],h,_=>h.elim
theorem c79{a b:Nat}(h:le2 a b):le2 (a37 a) (a37 b):=by
 rcases h with rfl|rfl
 ·exact .inl rfl
 ·exact .inr rfl
theorem a8y{a b:Nat}(h:le2 a b):le2 (a3r a) (a3r b):=by
 rcases h with rfl|rfl
 ·exact .inl rfl
 ·exact .inr rfl
theorem b6d{a b:Nat}(h:le2 a b):le2 (b0l a) (b0l b):=by
 rcases h with rfl|rfl
 ·exact .inl rfl
 ·exact .inr rfl
theorem c8i{low a7:Nat}:∀(l:List Nat),a4y low a7 2 l=low∨a4y low a7 2 l=2
 | []=>.inr rfl
 |v::l=>by
  simp only[a4y];split
  ·exact .inl rfl
  ·have:(if v=a7 then 2 else 2)=2:=by split<;>rfl
   rw[this];exact c8i l
theorem a7w{low a7:Nat}(h1:low≤1)(h2:a7≤1):∀{l m:List Nat},lel l m→∀{o o':Nat},le2 o o'→le2 (a4y low a7 o l) (a4y low a7 o' m)
 | [],[],_,o,o',ho=>ho
 |a::l,b::m,h,o,o',ho=>by
  simp only[a4y];rcases h.1 with rfl|rfl
  ·split
   ·exact .inl rfl
   ·refine a7w h1 h2 h.2 ?_;split
    ·exact ho
    ·exact .inl rfl
  ·rw[if_neg (by omega),if_neg (by omega)];split
   ·rcases c8i (low:=low) (a7:=a7) l with e|e
    ·exact .inl e
    ·exact .inr e
   ·exact a7w h1 h2 h.2 (.inr rfl)
 | [],b::m,h,_,_,_=>h.elim
 |a::l,[],h,_,_,_=>h.elim
theorem b5m:∀{l m:List Nat},lel l m→∀o:Nat,le2 (b1i o l) (b1i o m)
 | [],[],_,o=>.inl rfl
 |a::l,b::m,h,o=>by
  simp only[b1i];rcases h.1 with rfl|rfl
  ·split
   ·exact b5m h.2 _
   ·exact .inl rfl
  ·rw[if_neg (by omega)];exact .inr rfl
 | [],b::m,h,_=>h.elim
 |a::l,[],h,_=>h.elim
theorem d14{s s' a a' b b':Nat}(hs:le2 s s')(ha:le2 a a')(hb:le2 b b'):le2 (b27 s a b) (b27 s' a' b'):=by
 have key:∀s:Nat,(if a=b then a3r a else 2)=2∨(if a=b then a3r a else 2)=b27 s a' b':=by
  intro s;by_cases e:a=b
  ·rw[if_pos e];rcases ha with rfl|rfl
   ·rcases hb with rfl|rfl
    ·right;unfold b27;subst e;split
     ·rfl
     split
     ·rfl
     rw[if_pos rfl]
    ·left;rw[e];rfl
   ·left;rfl
  ·rw[if_neg e];exact .inl rfl
 unfold b27;rcases hs with rfl|rfl
 ·split
  ·exact a8y ha
  split
  ·exact a8y hb
  ·rename_i h0 h1;rcases key s with h|h
   ·exact .inr h
   ·left;rw[h];unfold b27;rw[if_neg h0,if_neg h1]
 ·rw[if_neg (by omega),if_neg (by omega)];rcases key s' with h|h
  ·exact .inr h
  ·exact .inl h
theorem d00{e e' d d':Nat}(he:le2 e e')(hd:le2 d d'):le2 (b7e e d) (b7e e' d'):=by
 unfold b7e;rcases he with rfl|rfl
 ·split
  ·exact .inl rfl
  split
  ·exact a8y hd
  ·exact .inl rfl
 ·exact .inr rfl
theorem d7b{l:List Nat}(h:2∈l):c50 l=2:=by
 unfold c50;have h1:∃i,l.findIdx? (λv=>decide (v≠3))=some i:=by
  cases hf:l.findIdx? (λv=>decide (v≠3))with
  |some i=>exact⟨i,rfl⟩
  |none=>have:=List.findIdx?_eq_none_iff.1 hf 2 h;simp at this
 obtain⟨i,hi⟩:=h1;rw[hi];have h2:l.any (λv=>decide (a37 v=2))=true:=List.any_eq_true.2 ⟨2,h,by decide⟩;simp only[h2,Bool.or_true,if_true]
theorem d2y{l m:List Nat}(h:lel l m):le2 (c50 l) (c50 m):=by
 by_cases h2:2∈l
 ·exact .inr (d7b h2)
 ·rw[h.eq h2];exact .inl rfl
theorem c47(k:Nat){l m:List Nat}(h:lel l m):le2 (a2y k l) (a2y k m):=by
 unfold a2y;split
 ·exact .inl rfl
 ·exact .inl rfl
 ·exact a8y (h.getD 2 0)
 ·exact b6d (h.getD 2 0)
 ·exact a7w (by omega) (by omega) h (.inl rfl)
 ·exact b6d (a7w (by omega) (by omega) h (.inl rfl))
 ·exact a7w (by omega) (by omega) h (.inl rfl)
 ·exact b6d (a7w (by omega) (by omega) h (.inl rfl))
 ·exact b5m h 0
 ·exact b6d (b5m h 0)
 ·exact d14 (h.getD 2 0) (h.getD 2 1) (h.getD 2 2)
 ·exact d00 (h.getD 2 0) (h.getD 2 1)
 ·exact d2y h
 ·exact .inl rfl
theorem d6z(k:Nat){l m:List Nat}(h:lel l m):le2 (nAlg.ev k l) (nAlg.ev k m):=by
 show le2 (a6f k (l.map a37)) (a6f k (m.map a37));unfold a6f;rw[List.length_map,List.length_map,h.len];split
 ·exact .inl rfl
 ·exact c47 k (h.map λa b=>c79)
structure HkM(h g:Hk Nat):Prop where
 net:∀n v w,le2 v w→le2 (h.net n v) (g.net n w)
 pin:∀n p v w,le2 v w→le2 (h.pin n p v) (g.pin n p w)
theorem d1z:HkM hk0 hk0:=⟨λ_ _ _ h=>h,λ_ _ _ _ h=>h⟩
section
variable {nodes:List Nd}{h g:Hk Nat}(hh:HkM h g)
include hh
theorem c1l(n:Nat){N M:List Nat}(hN:lel N M):∀(l:List Nat) (p:Nat),lel (a56 nAlg h n N p l) (a56 nAlg g n M p l)
 | [],_=>trivial
 |m::l,p=>⟨hh.pin _ _ _ _ (hN.getD 0 m),c1l n hN l (p+1)⟩
theorem c3e(n:Nat){N M:List Nat}(hN:lel N M):lel (a5u nAlg nodes h N n) (a5u nAlg nodes g M n):=c1l hh n hN _ 0
theorem c5n(n:Nat){N M:List Nat}(hN:lel N M):lel (stepG nAlg nodes h N n) (stepG nAlg nodes g M n):=by
 unfold stepG;refine hN.set (hh.net _ _ _ ?_) n;split
 ·exact d6z _ (c3e hh n hN)
 ·exact hN.getD 0 n
theorem b8h:∀(ord:List Nat) {N M:List Nat},lel N M→lel (ord.foldl (stepG nAlg nodes h) N) (ord.foldl (stepG nAlg nodes g) M)
 | [],_,_,hN=>hN
 |n::ord,_,_,hN=>by rw[List.foldl_cons,List.foldl_cons];exact b8h ord (c5n hh n hN)
omit hh in
theorem b2b:∀(is vi wi:List Nat) {N M:List Nat},lel vi wi→lel N M→lel (a2f N is vi) (a2f M is wi)
 | [],vi,wi,N,M,_,hN=>by cases vi<;>cases wi<;>exact hN
 |i::is,[],[],N,M,_,hN=>hN
 |i::is,v::vi,w::wi,N,M,hv,hN=>by simp only[a2f];exact b2b is vi wi hv.2 (hN.set hv.1 i)
 |i::is,[],_::_,_,_,hv,_=>hv.elim
 |i::is,_::_,[],_,_,hv,_=>hv.elim
theorem c6p(ord ins sts:List Nat){vi wi vs ws:List Nat}(hi:lel vi wi)(hs:lel vs ws):lel (c6q nAlg nodes h ord ins sts vi vs) (c6q nAlg nodes g ord ins sts wi ws):=b8h hh ord (b2b _ _ _ hs (b2b _ _ _ hi (lel.rfl' _)))
end
end Go.Pc
