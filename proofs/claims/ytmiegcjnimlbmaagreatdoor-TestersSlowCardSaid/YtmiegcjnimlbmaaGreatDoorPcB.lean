/- PcWord: words of 64 values as d2s data. Plain definitions. -/
import Derived.Test.YtmiegcjnimlbmaaGreatDoorPcP
import Derived.Test.YtmiegcjnimlbmaaGreatDoorAxD
set_option linter.unusedSimpArgs false
set_option linter.unusedVariables false
namespace Go.Pc
open Go.Ax
structure W where
 one:BitVec 64
 zero:BitVec 64
def a4k(v:Nat):Nat:=if 3<v then 2 else v
def a23(k:Nat):Nat:=[0,0,0,1,1,2,2,2,2,2,2,3,2,1,1,0].getD k 0
def a24(k:Nat):Nat:=[0,0,0,1,1,16,16,16,16,16,16,3,2,16,1,0].getD k 0
def a1p(k:Nat):Bool:=decide (1≤k)&&decide (k≤13)
end Go.Pc
/- PcSim: one cycle of a circuit, over words or over single values; lanes of words are single values. Plain definitions. -/
namespace Go.Pc
open Go.Ax
structure Alg(α:Type) where
 ev:Nat→List α→α
 z:α
 fill:Nat→α
structure Hk(α:Type) where
 net:Nat→α→α
 pin:Nat→Nat→α→α
structure Flt where
 model:Nat
 node:Nat
 pin:Int
 value:Nat
 other:Nat
def Flt.enc(f:Flt):List AV:=[.int .u8 f.model,.int .i64 f.node,.int .i64 f.pin,.int .u8 f.value,.int .i64 f.other]
structure Pat where
 ic:Rep
 ins:List Nat
 sc:Rep
 sts:List Nat
def Pat.enc(p:Pat):List AV:=[sl p.ic (p.ins.map u8R),sl p.sc (p.sts.map u8R)]
section
variable {α:Type}(A:Alg α)(nodes:List Nd)(h:Hk α)
def a0x(nodes:List Nd)(n:Nat):Nat:=(nodes[n]?.map Nd.kind).getD 0
def a2k(nodes:List Nd)(n:Nat):List Nat:=(nodes[n]?.map Nd.ins).getD []
def a57(n:Nat)(nets:List α):Nat→List Nat→List α
 |_,[]=>[]
 |p,m::r=>h.pin n p (nets.getD m A.z)::a57 n nets (p+1) r
def a1k(nets:List α)(n:Nat):List α:=a57 A h n nets 0 (a2k nodes n)
def stepG(nets:List α)(n:Nat):List α:=nets.set n (h.net n (if a0x nodes n≠0∧a0x nodes n≠14 then A.ev (a0x nodes n) (a1k A nodes h nets n)else nets.getD n A.z))
def a1u(nets:List α):List Nat→List α→List α
 |i::is,v::vs=>a1u (nets.set i v) is vs
 |_,_=>nets
def c5b(ord ins sts:List Nat)(vi vs:List α):List α:=ord.foldl (stepG A nodes h) (a1u (a1u (List.replicate nodes.length A.z) ins vi) sts vs)
def hk0:Hk α:=⟨λ_ w=>w,λ_ _ w=>w⟩
end
structure Hom{α β:Type}(A:Alg α)(B:Alg β)(φ:α→β):Prop where
 ev:∀k l,φ (A.ev k l)=B.ev k (l.map φ)
 z:φ A.z=B.z
 fill:∀v,φ (A.fill v)=B.fill v
structure HkHom{α β:Type}(φ:α→β)(h:Hk α)(k:Hk β):Prop where
 net:∀n w,φ (h.net n w)=k.net n (φ w)
 pin:∀n p w,φ (h.pin n p w)=k.pin n p (φ w)
section
variable {α β:Type}{A:Alg α}{B:Alg β}{φ:α→β}(hφ:Hom A B φ){nodes:List Nd}{h:Hk α}{k:Hk β}(hk:HkHom φ h k)
include hφ
include hk
end
/-! ### single values -/
abbrev V2:=Bool×Bool
def a13(v:Nat):V2:=match a4k v with
 |0=>(false,true)
 |1=>(true,false)
 |2=>(false,false)
 |_=>(true,true)
def c4n(a b:V2):V2:=(a.1&&b.1,a.2||b.2)
def vOr(a b:V2):V2:=(a.1||b.1,a.2&&b.2)
def c4m(a b:V2):V2:=(a.1&&b.2||a.2&&b.1,a.1&&b.1||a.2&&b.2)
def c12(w:V2):V2:=(w.1 && !(w.1&&w.2),w.2 && !(w.1&&w.2))
def c71(w:V2):V2:=(w.2,w.1)
def e4y(s a b:V2):V2:=(s.2&&a.1||s.1&&b.1||a.1&&b.1,s.2&&a.2||s.1&&b.2||a.2&&b.2)
def e4x(e d:V2):V2:=(e.2||e.1&&d.1,e.2||e.1&&d.2)
def c4l(s:Bool×Bool×Bool)(w:V2):Bool×Bool×Bool:=(s.1||(w.1 && !w.2),s.2.1||(w.2 && !w.1),s.2.2 || !(w.1||w.2))
def e75(s:Bool×Bool×Bool):V2:=(!s.2.1 && !(s.2.2||(s.1&&s.2.1)),!s.1 && !(s.2.2||(s.1&&s.2.1)))
def e76(l:List V2):V2:=e75 (l.foldl c4l (false,false,false))
def d5q(k:Nat)(r:List V2):V2:=match k with
 |1=>a13 0
 |2=>a13 1
 |3=>r.getD 0 (false,false)
 |4=>c71 (r.getD 0 (false,false))
 |5=>r.foldl c4n (a13 1)
 |6=>c71 (r.foldl c4n (a13 1))
 |7=>r.foldl vOr (a13 0)
 |8=>c71 (r.foldl vOr (a13 0))
 |9=>r.foldl c4m (a13 0)
 |10=>c71 (r.foldl c4m (a13 0))
 |11=>e4y (r.getD 0 (false,false)) (r.getD 1 (false,false)) (r.getD 2 (false,false))
 |12=>e4x (r.getD 0 (false,false)) (r.getD 1 (false,false))
 |_=>a13 2
def e24(k:Nat)(l:List V2):V2:=
 if l.length<a23 k∨a24 k<l.length then a13 2
 else if k=13 then e76 l
 else d5q k (l.map c12)
section
variable {j:Nat}(hj:j<64)
include hj
end
/-! ### contradictions -/
/-! ### a circuit -/
structure Sim where
 nodes:List Nd
 ord:List Nat
 ins:List Nat
 sts:List Nat
 outs:List Nat
section
variable {α:Type}(A:Alg α)(S:Sim)
end
end Go.Pc
/- PcWf: the circuits of the statements are valid. Plain. -/
namespace Go.Pc
open Go.Ax
structure Cir.wf(c:Cir):Prop where
 pos:0<c.nodes.length
 len:c.nodes.length≤14
 names:c.names=(List.range c.nodes.length).map a2j
 kind:∀x∈c.nodes,x.kind≤14
 lo:∀x∈c.nodes,a23 x.kind≤x.ins.length
 hi:∀x∈c.nodes,x.ins.length≤a24 x.kind
 ins:∀x∈c.nodes,∀m∈x.ins,m<c.nodes.length
 bus:∀x∈c.nodes,x.kind=13→∀m∈x.ins,a0x c.nodes m=12
 mem:∀x∈c.nodes,x.mem=0∧x.bit=0
 acyc:∀(i:Nat) (x:Nd),c.nodes[i]?=some x→a1p x.kind=true→∀m∈x.ins,m<i
 outs:∀o∈c.outs,o<c.nodes.length
 outl:c.outs.length≤4
theorem d9d{k:Nat}(h:k<6):a23 (5+k)=2∧a24 (5+k)=16:=by
 have:k=0∨k=1∨k=2∨k=3∨k=4∨k=5:=by omega
 rcases this with rfl|rfl|rfl|rfl|rfl|rfl<;>exact⟨rfl,rfl⟩
structure GateOk(ks:List Nat)(x:Nd):Prop where
 k1:1≤x.kind
 k13:x.kind≤13
 lo:a23 x.kind≤x.ins.length
 hi:x.ins.length≤a24 x.kind
 ins:∀m∈x.ins,m<ks.length
 bus:x.kind=13→∀m∈x.ins,ks[m]?=some 12
 mem:x.mem=0∧x.bit=0
theorem c31{ks:List Nat}{i:Nat}(h:i<(a8v ks).length):(a8v ks).getD i 0<ks.length∧ks[(a8v ks).getD i 0]?=some 12:=by
 have:(a8v ks).getD i 0∈a8v ks:=by rw[List.getD,List.getElem?_eq_getElem h];exact List.getElem_mem h
 exact c4p this
theorem c05(bus:Bool)(g:GX)(ks:List Nat)(hp:0<ks.length):GateOk ks (a0l bus g ks):=by
 have a:=Nat.mod_lt g.i0 hp;have b:=Nat.mod_lt g.i1 hp;have d:=Nat.mod_lt g.i2 hp;unfold a0l;dsimp only;generalize(if bus=true then g.kind%13 else g.kind%9)=kind;split
 ·rename_i h6;obtain⟨e1,e2⟩:=d9d h6;split
  ·exact⟨by dsimp only;omega,by dsimp only;omega,by simp[e1],by simp[e2],by simp[a,b,d],by dsimp only;omega,⟨rfl,rfl⟩⟩
  ·exact⟨by dsimp only;omega,by dsimp only;omega,by simp[e1],by simp[e2],by simp[a,b],by dsimp only;omega,⟨rfl,rfl⟩⟩
 split
 ·exact⟨by dsimp only;omega,by dsimp only;omega,by simp[a23],by simp[a24],by simp[a],by simp,⟨rfl,rfl⟩⟩
 split
 ·exact⟨by dsimp only;omega,by dsimp only;omega,by simp[a23],by simp[a24],by simp[a,b,d],by simp,⟨rfl,rfl⟩⟩
 split
 ·exact⟨by dsimp only;omega,by dsimp only;omega,by simp[a23],by simp[a24],by simp[a,b],by simp,⟨rfl,rfl⟩⟩
 split
 ·rename_i h;have t0:=c31 (Nat.mod_lt g.i0 h.2);split
  ·have t1:=c31 (Nat.mod_lt (g.i0%(a8v ks).length+1) h.2);refine⟨by dsimp only;omega,by dsimp only;omega,by simp[a23],by simp[a24],?_,?_,⟨rfl,rfl⟩⟩
   ·intro m hm;simp only[List.mem_cons,List.not_mem_nil,or_false]at hm;rcases hm with rfl|rfl;exact t0.1;exact t1.1
   ·intro _ m hm;simp only[List.mem_cons,List.not_mem_nil,or_false]at hm;rcases hm with rfl|rfl;exact t0.2;exact t1.2
  ·refine⟨by dsimp only;omega,by dsimp only;omega,by simp[a23],by simp[a24],?_,?_,⟨rfl,rfl⟩⟩
   ·intro m hm;simp only[List.mem_cons,List.not_mem_nil,or_false]at hm;subst hm;exact t0.1
   ·intro _ m hm;simp only[List.mem_cons,List.not_mem_nil,or_false]at hm;subst hm;exact t0.2
 split
 ·have:g.i0%2=0∨g.i0%2=1:=by omega
  rcases this with h|h<;>rw[h]<;>exact⟨by dsimp only;omega,by dsimp only;omega,by simp[a23],by simp[a24],by simp,by simp,⟨rfl,rfl⟩⟩
 ·exact⟨by dsimp only;omega,by dsimp only;omega,by simp[a23],by simp[a24],by simp[a],by simp,⟨rfl,rfl⟩⟩
theorem d03(bus:Bool):∀(l:List GX) (ks:List Nat) (i:Nat) (x:Nd),(gN bus ks l)[i]?=some x→∃g,x=a0l bus g (ks++((gN bus ks l).take i).map Nd.kind)
 | [],ks,i,x,h=>by simp[gN]at h
 |g::l,ks,0,x,h=>by simp only[gN,List.getElem?_cons_zero,Option.some.injEq]at h;exact⟨g,by rw[←h];simp⟩
 |g::l,ks,i+1,x,h=>by simp only[gN,List.getElem?_cons_succ]at h;obtain⟨g',hg⟩:=d03 bus l _ i x h;exact⟨g',by rw[hg];simp[gN]⟩
theorem CX.dn_len(x:CX):x.dn.length=x.d:=by have:x.d<3:=Nat.mod_lt _ (by omega);unfold CX.dn;rw[List.length_map,List.length_take];simp;omega
theorem CX.nodes_len(x:CX):x.nodes.length=x.n:=by unfold CX.nodes CX.n;rw[List.length_append,List.length_append,List.length_replicate,x.dn_len,a53]
theorem CX.dn_kind(x:CX):x.dn.map Nd.kind=List.replicate x.d 14:=by
 have:x.d=0∨x.d=1∨x.d=2:=by have:x.d<3:=Nat.mod_lt _ (by omega);omega
 unfold CX.dn;rcases this with h|h|h<;>rw[h]<;>rfl
theorem CX.base_len(x:CX):x.base.length=x.k+x.d:=by unfold CX.base;simp
theorem CX.kinds(x:CX):x.nodes.map Nd.kind=x.base++(gN x.bus x.base x.gs).map Nd.kind:=by unfold CX.nodes CX.base;rw[List.map_append,List.map_append,List.map_replicate,x.dn_kind];rfl
theorem CX.node_cases(x:CX){i:Nat}{nd:Nd}(h:x.nodes[i]?=some nd):nd=c26∨(∃v,nd=a9d (v%x.n))∨GateOk ((x.nodes.map Nd.kind).take i) nd:=by
 unfold CX.nodes at h;by_cases h1:i<x.k
 ·rw[List.append_assoc,List.getElem?_append_left (by simpa using h1),List.getElem?_replicate,if_pos h1]at h;exact .inl (Option.some.inj h).symm
 rw[List.append_assoc,List.getElem?_append_right (by simpa using h1),List.length_replicate]at h;by_cases h2:i-x.k<x.d
 ·rw[List.getElem?_append_left (by rw[x.dn_len];exact h2)]at h;unfold CX.dn at h;rw[List.getElem?_map]at h;cases hv:([x.d0,x.d1].take x.d)[i-x.k]? with
  |none=>rw[hv]at h;cases h
  |some v=>rw[hv]at h;exact .inr (.inl ⟨v,(Option.some.inj h).symm⟩)
 ·rw[List.getElem?_append_right (by rw[x.dn_len];omega),x.dn_len]at h;obtain⟨g,hg⟩:=d03 _ _ _ _ _ h;refine .inr (.inr ?_);have e:(x.nodes.map Nd.kind).take i=x.base++((gN x.bus x.base x.gs).take (i-x.k-x.d)).map Nd.kind:=by
   rw[x.kinds,List.take_append,List.take_of_length_le (by rw[x.base_len];omega),x.base_len,List.map_take]
   congr 2;omega
  rw[e,hg];exact c05 _ _ _ (by
   rw[List.length_append,x.base_len];have:0<x.k:=by unfold CX.k;omega
   omega)
theorem CX.wf(x:CX):x.cir.wf:=by
 have hn:=x.nodes_len;have hk:x.k≤4∧0<x.k:=by unfold CX.k;omega
 have hd:x.d<3:=Nat.mod_lt _ (by omega);have hg:x.gs.length≤8:=by unfold CX.gs;rw[List.length_take];omega
 have hnn:x.n=x.k+x.d+x.gs.length:=rfl;have key:∀nd∈x.nodes,∃i,x.nodes[i]?=some nd∧i<x.n:=by intro nd h;obtain⟨i,hi⟩:=List.mem_iff_getElem?.1 h;exact⟨i,hi,by rw[←hn];exact(List.getElem?_eq_some_iff.1 hi).1⟩
 have hl:∀i,i<x.n→((x.nodes.map Nd.kind).take i).length=i:=λi hi=>by rw[List.length_take,List.length_map,hn];omega
 have hsrc:∀nd∈x.nodes,nd=c26∨(∃v,nd=a9d (v%x.n))∨∃i,i<x.n∧GateOk ((x.nodes.map Nd.kind).take i) nd:=by
  intro nd h;obtain⟨i,hi,hlt⟩:=key nd h;rcases x.node_cases hi with h|h|h
  ·exact .inl h
  ·exact .inr (.inl h)
  ·exact .inr (.inr ⟨i,hlt,h⟩)
 refine⟨by show 0<x.nodes.length;omega,by show x.nodes.length≤14;omega,by show x.names=_;rw[show x.cir.nodes=x.nodes from rfl,hn];rfl,?_,?_,?_,?_,?_,?_,?_,?_,?_⟩
 ·intro nd h;rcases hsrc nd h with rfl|⟨v,rfl⟩|⟨i,hi,h⟩
  ·decide
  ·exact Nat.le_refl 14
  ·have:=h.k13;omega
 ·intro nd h;rcases hsrc nd h with rfl|⟨v,rfl⟩|⟨i,hi,h⟩
  ·decide
  ·exact Nat.le_refl 1
  ·exact h.lo
 ·intro nd h;rcases hsrc nd h with rfl|⟨v,rfl⟩|⟨i,hi,h⟩
  ·decide
  ·exact Nat.le_refl 1
  ·exact h.hi
 ·intro nd h m hm;show m<x.nodes.length;rw[hn];rcases hsrc nd h with rfl|⟨v,rfl⟩|⟨i,hi,h⟩
  ·simp[c26]at hm
  ·simp only[a9d,List.mem_cons,List.not_mem_nil,or_false]at hm;subst hm;exact Nat.mod_lt _ (by omega)
  ·have:=h.ins m hm;rw[hl i hi]at this;omega
 ·intro nd h h13 m hm;rcases hsrc nd h with rfl|⟨v,rfl⟩|⟨i,hi,h⟩
  ·simp[c26]at hm
  ·simp[a9d]at h13
  ·have h1:=h.bus h13 m hm;have h2:=h.ins m hm;rw[hl i hi]at h2;rw[List.getElem?_take,if_pos h2,List.getElem?_map]at h1;show a0x x.nodes m=12;unfold a0x;rw[h1];rfl
 ·intro nd h;rcases hsrc nd h with rfl|⟨v,rfl⟩|⟨i,hi,h⟩
  ·exact⟨rfl,rfl⟩
  ·exact⟨rfl,rfl⟩
  ·exact h.mem
 ·intro i nd h hc m hm;have hlt:i<x.n:=by rw[←hn];exact(List.getElem?_eq_some_iff.1 h).1
  rcases x.node_cases h with rfl|⟨v,rfl⟩|h
  ·simp[c26]at hm
  ·simp[a9d,a1p]at hc
  ·have:=h.ins m hm;rw[hl i hlt]at this;exact this
 ·intro o ho;show o<x.nodes.length;rw[hn];have ho:o∈x.outN:=ho;unfold CX.outN at ho;simp only[List.mem_append,List.mem_map,List.mem_cons,List.not_mem_nil,or_false]at ho;rcases ho with ⟨a,_,rfl⟩|rfl
  ·exact Nat.mod_lt _ (by omega)
  ·omega
 ·show x.outN.length≤4;unfold CX.outN;simp;omega
end Go.Pc
/- PcFan: which pins read a net. Plain. -/
namespace Go.Pc
open Go.Ax
def a7z(l:Nat×Nat):List AV:=[.int .i64 l.1,.int .i64 l.2]
def cnt(L:List (Nat×Nat))(a:Nat):Nat:=(L.map (·.1)).count a
structure FoOk(nodes:List Nd)(i k:Nat)(fo:List (List (Nat×Nat))):Prop where
 len:fo.length=nodes.length
 num:∀(j:Nat) (L:List (Nat×Nat)),fo[j]?=some L→∀a,cnt L a=if a<i then(a2k nodes a).count j else if a=i then((a2k nodes i).take k).count j else 0
theorem FoOk.zero(nodes:List Nd):FoOk nodes 0 0 (List.replicate nodes.length []):=by
 refine⟨by simp,λj L h a=>?_⟩;rw[List.getElem?_replicate]at h;split at h
 ·cases h;simp[Pc.cnt]
 ·cases h
theorem FoOk.step{nodes:List Nd}{i k m:Nat}{fo:List (List (Nat×Nat))}{L:List (Nat×Nat)}(h:FoOk nodes i k fo)(hm:(a2k nodes i)[k]?=some m)(hL:fo[m]?=some L):FoOk nodes i (k+1) (fo.set m (L++[(i,k)])):=by
 refine⟨by rw[List.length_set,h.len],λj L' hj a=>?_⟩;have ht:=a1g hm;rw[List.getElem?_set]at hj;have hml:m<fo.length:=(List.getElem?_eq_some_iff.1 hL).1;by_cases hmj:m=j
 ·subst hmj;simp only[if_true,hml,Option.some.injEq]at hj;subst hj;have:=h.num m L hL a;have e:Pc.cnt (L++[(i,k)]) a=Pc.cnt L a+if i=a then 1 else 0:=by
   unfold Pc.cnt;rw[List.map_append,List.count_append];by_cases hia:i=a
   ·subst hia;simp
   ·simp[hia,List.count_cons]
  rw[e,this,ht];by_cases h1:a<i
  ·simp[h1];omega
  ·by_cases h2:a=i
   ·subst h2;simp
   ·simp[h1,h2];omega
 ·rw[if_neg hmj]at hj;have:=h.num j L' hj a;rw[this,ht];by_cases h1:a<i
  ·simp[h1]
  ·by_cases h2:a=i
   ·subst h2;simp[List.count_append,List.count_cons,hmj]
   ·simp[h1,h2]
theorem FoOk.next{nodes:List Nd}{i k:Nat}{fo:List (List (Nat×Nat))}(h:FoOk nodes i k fo)(hk:k=(a2k nodes i).length):FoOk nodes (i+1) 0 fo:=by
 refine⟨h.len,λj L hj a=>?_⟩;rw[h.num j L hj a];subst hk;rw[List.take_length];by_cases h1:a<i
 ·simp[h1,show a<i+1 by omega]
 ·by_cases h2:a=i
  ·subst h2;simp
  ·simp[h1,h2,show ¬a<i+1 by omega]
theorem a22{nodes:List Nd}{i:Nat}{x:Nd}(h:nodes[i]?=some x):a2k nodes i=x.ins:=by simp[a2k,h]
theorem c96(n:Nat):∀(L:List (Nat×Nat)),(∀l∈L,l.1<n)→L.length=((List.range n).map λa=>cnt L a).sum
 | [],_=>by
  have:∀l:List Nat,(l.map λa=>cnt [] a).sum=0:=by intro l;induction l with|nil=>rfl|cons a l ih=>rw[List.map_cons,List.sum_cons,ih];rfl
  rw[this];rfl
 |x::L,h=>by
  have ih:=c96 n L (λl hl=>h l (by simp[hl]));have hx:=h x (by simp);have e:∀a,cnt (x::L) a=cnt L a+if x.1=a then 1 else 0:=λa=>by unfold cnt;rw[List.map_cons,List.count_cons];simp[beq_iff_eq]
  have s:∀(l:List Nat),l.Nodup→(l.map λa=>cnt (x::L) a).sum=(l.map λa=>cnt L a).sum+if x.1∈l then 1 else 0:=by
   intro l
   induction l with
   |nil=>intro _;rfl
   |cons a l ih2=>
    intro hn;rw[List.nodup_cons]at hn;simp only[List.map_cons,List.sum_cons,e a,ih2 hn.2,List.mem_cons];by_cases h1:x.1=a
    ·subst h1;simp[hn.1];omega
    ·simp[h1];omega
  rw[s _ List.nodup_range,if_pos (by simpa using hx),List.length_cons,ih]
theorem FoOk.node{nodes:List Nd}{i k j:Nat}{fo:List (List (Nat×Nat))}{L:List (Nat×Nat)}(h:FoOk nodes i k fo)(hL:fo[j]?=some L)(hi:i≤nodes.length):∀l∈L,l.1<nodes.length:=by
 intro l hl;have hc:=h.num j L hL l.1;have hp:0<cnt L l.1:=by unfold cnt;exact List.count_pos_iff.2 (List.mem_map.2 ⟨l,hl,rfl⟩)
 by_cases h1:l.1<i
 ·omega
 ·rw[if_neg h1]at hc;by_cases h2:l.1=i
  ·rw[if_pos h2]at hc;cases hx:nodes[i]? with
   |none=>simp[a2k,hx]at hc;omega
   |some x=>have:=(List.getElem?_eq_some_iff.1 hx).1;omega
  ·rw[if_neg h2]at hc;omega
theorem FoOk.total{nodes:List Nd}{i k j:Nat}{fo:List (List (Nat×Nat))}{L:List (Nat×Nat)}(h:FoOk nodes i k fo)(hL:fo[j]?=some L)(hn:nodes.length≤14)(hx:∀y∈nodes,y.ins.length≤16)(hi:i≤nodes.length:=by omega):L.length≤224:=by
 have hb:∀a,cnt L a≤16:=by
  intro a;have hins:(a2k nodes a).length≤16:=by
   unfold a2k;cases hx':nodes[a]? with
   |none=>simp
   |some x=>exact hx x (List.mem_of_getElem? hx')
  rw[h.num j L hL a];split
  ·exact Nat.le_trans List.count_le_length hins
  split
  ·rename_i e;subst e;refine Nat.le_trans List.count_le_length ?_;rw[List.length_take];omega
  ·omega
 rw[c96 nodes.length L (h.node hL hi)];have s:∀l:List Nat,(l.map λa=>cnt L a).sum≤16*l.length:=by
  intro l
  induction l with
  |nil=>simp
  |cons a l ih=>have:=hb a;simp only[List.map_cons,List.sum_cons,List.length_cons];omega
 have:=s (List.range nodes.length);rw[List.length_range]at this;omega
theorem Cir.wf.insl{c:Cir}(h:c.wf){x:Nd}(hx:x∈c.nodes):x.ins.length≤16:=by
 have k14:=h.kind x hx;have hhi:=h.hi x hx;have:a24 x.kind≤16:=by
  have hk:x.kind=0∨x.kind=1∨x.kind=2∨x.kind=3∨x.kind=4∨x.kind=5∨x.kind=6∨x.kind=7∨x.kind=8∨x.kind=9∨x.kind=10∨x.kind=11∨x.kind=12∨x.kind=13∨x.kind=14:=by omega
  rcases hk with e|e|e|e|e|e|e|e|e|e|e|e|e|e|e<;>rw[e]<;>decide
 omega
end Go.Pc
/- PcKahn: the order in which nodes become ready. Plain. -/
namespace Go.Pc
open Go.Ax
def b8v(nodes:List Nd)(ready:List Nat)(done a:Nat):Nat:=((a2k nodes a).filter λm=>decide (m∉ready.take done)).length
structure Kahn(nodes:List Nd)(left ready:List Nat)(done:Nat)(L:List (Nat×Nat)):Prop where
 ll:left.length=nodes.length
 rn:∀r∈ready,r<nodes.length
 nd:ready.Nodup
 dle:done≤ready.length
 eq:∀a,a<nodes.length→a1p (a0x nodes a)=true→left.getD a 0+cnt L a=b8v nodes ready done a
 nc:∀a,a<nodes.length→a1p (a0x nodes a)=false→left.getD a 0=0
 zero:∀a,a<nodes.length→(a∈ready↔left.getD a 0=0)
def a9v(nodes:List Nd)(a:Nat):Nat:=if a1p (a0x nodes a)then(a2k nodes a).length else 0
def a37(nodes:List Nd)(i:Nat):List Nat:=(List.range nodes.length).map λj=>if j<i then a9v nodes j else 0
def a3u(nodes:List Nd)(i:Nat):List Nat:=(List.range i).filter λj=>decide (a9v nodes j=0)
theorem b9c(nodes:List Nd)(i:Nat):a3u nodes (i+1)=if a9v nodes i=0 then a3u nodes i++[i]else a3u nodes i:=by unfold a3u;rw[List.range_succ,List.filter_append];by_cases h:a9v nodes i=0<;>simp[h]
theorem c55(nodes:List Nd)(i:Nat):(a3u nodes i).length≤i:=Nat.le_trans (List.length_filter_le _ _) (by simp)
theorem c21(nodes:List Nd):a37 nodes 0=List.replicate nodes.length 0:=by
 apply List.ext_getElem?;intro j;simp only[a37,List.getElem?_map,List.getElem?_replicate,Nat.not_lt_zero,if_false];by_cases h:j<nodes.length
 ·rw[List.getElem?_range h];simp[h]
 ·rw[List.getElem?_eq_none (by simpa using h)];simp[h]
theorem a5i{nodes:List Nd}{i j:Nat}(h:j<nodes.length):(a37 nodes i)[j]?=some (if j<i then a9v nodes j else 0):=by simp[a37,List.getElem?_range h]
theorem b3j{nodes:List Nd}{i:Nat}(h:i<nodes.length):(a37 nodes i).set i (a9v nodes i)=a37 nodes (i+1):=by
 apply List.ext_getElem?;intro j;rw[List.getElem?_set];by_cases hj:j<nodes.length
 ·rw[a5i hj,a5i hj];by_cases hij:i=j
  ·subst hij;simp[a37,h]
  ·by_cases h2:j<i
   ·simp[hij,h2,show j<i+1 by omega]
   ·simp[hij,h2,show ¬j<i+1 by omega]
 ·have e:∀i,(a37 nodes i)[j]?=none:=λi=>List.getElem?_eq_none (by simp[a37];omega);rw[e,e];have:i≠j:=by omega
  simp[this]
theorem c22{nodes:List Nd}{i:Nat}(h:i<nodes.length)(h0:a9v nodes i=0):a37 nodes i=a37 nodes (i+1):=by
 rw[←b3j h];apply List.ext_getElem?;intro j;rw[List.getElem?_set];by_cases hij:i=j
 ·subst hij;rw[a5i h];simp[a37,h,h0]
 ·simp[hij]
theorem Kahn.start(nodes:List Nd):Kahn nodes (a37 nodes nodes.length) (a3u nodes nodes.length) 0 []:=by
 have hg:∀a,a<nodes.length→(a37 nodes nodes.length).getD a 0=a9v nodes a:=by intro a ha;rw[List.getD,a5i ha];simp[ha]
 refine⟨by simp[a37],?_,?_,Nat.zero_le _,?_,?_,?_⟩
 ·intro r hr;unfold a3u at hr;rw[List.mem_filter]at hr;simpa using hr.1
 ·exact List.nodup_range.filter _
 ·intro a ha hc;rw[hg a ha];have e:∀l:List Nat,(l.filter λm=>decide (m∉([]:List Nat)))=l:=λl=>List.filter_eq_self.2 (λm _=>by simp);simp only[a9v,hc,if_true,b8v,cnt,List.map_nil,List.count_nil,List.take_zero,Nat.add_zero];exact(congrArg List.length (e _)).symm
 ·intro a ha hc;rw[hg a ha];simp[a9v,hc]
 ·intro a ha;rw[hg a ha];unfold a3u;rw[List.mem_filter];simp[ha]
section
variable {nodes:List Nd}{left ready:List Nat}{done:Nat}{L:List (Nat×Nat)}
theorem b8c(L:List (Nat×Nat))(a p b:Nat):cnt (L++[(a,p)]) b=cnt L b+if a=b then 1 else 0:=by
 unfold cnt;rw[List.map_append,List.count_append];by_cases hia:a=b
 ·subst hia;simp
 ·simp[hia,List.count_cons]
theorem Kahn.skip(h:Kahn nodes left ready done L){a p:Nat}(hc:a1p (a0x nodes a)=false):Kahn nodes left ready done (L++[(a,p)]):=by
 refine⟨h.ll,h.rn,h.nd,h.dle,?_,h.nc,h.zero⟩;intro b hb hcb;have:a≠b:=λe=>by subst e;rw[hc]at hcb;cases hcb
 rw[b8c,if_neg this,Nat.add_zero];exact h.eq b hb hcb
theorem d2t{ready:List Nat}{done x a:Nat}(h:done≤ready.length):b8v nodes (ready++[x]) done a=b8v nodes ready done a:=by unfold b8v;rw[List.take_append_of_le_length h]
theorem Kahn.pos(h:Kahn nodes left ready done L){a p:Nat}(ha:a<nodes.length)(hc:a1p (a0x nodes a)=true)(hcnt:cnt (L++[(a,p)]) a≤b8v nodes ready done a):0<left.getD a 0:=by have:=h.eq a ha hc;rw[b8c,if_pos rfl]at hcnt;omega
theorem Kahn.dec(h:Kahn nodes left ready done L){a p:Nat}(ha:a<nodes.length)(hc:a1p (a0x nodes a)=true)(hcnt:cnt (L++[(a,p)]) a≤b8v nodes ready done a) :
 Kahn nodes (left.set a (left.getD a 0-1)) (if left.getD a 0-1=0 then ready++[a]else ready) done (L++[(a,p)]):=by
 have hpos:=h.pos ha hc hcnt;have hal:a<left.length:=by rw[h.ll];exact ha
 have hget:∀b,(left.set a (left.getD a 0-1)).getD b 0=if a=b then left.getD a 0-1 else left.getD b 0:=by
  intro b;simp only[List.getD_eq_getElem?_getD,List.getElem?_set];by_cases hab:a=b
  ·subst hab;simp[hal]
  ·simp[hab]
 have hna:a∉ready:=λhm=>by have:=(h.zero a ha).1 hm;omega
 have hpe:∀b,b8v nodes (if left.getD a 0-1=0 then ready++[a]else ready) done b=b8v nodes ready done b:=by
  intro b;split
  ·exact d2t h.dle
  ·rfl
 refine⟨by rw[List.length_set,h.ll],?_,?_,?_,?_,?_,?_⟩
 ·intro r hr;split at hr
  ·simp only[List.mem_append,List.mem_singleton]at hr;rcases hr with hr|rfl
   ·exact h.rn r hr
   ·exact ha
  ·exact h.rn r hr
 ·split
  ·rw[List.nodup_append];refine⟨h.nd,by simp,?_⟩;intro x hx y hy;simp only[List.mem_singleton]at hy;subst hy;exact λe=>hna (e▸hx)
  ·exact h.nd
 ·split
  ·have:=h.dle;simp;omega
  ·exact h.dle
 ·intro b hb hcb;rw[hget,hpe,b8c];have:=h.eq b hb hcb;by_cases hab:a=b
  ·subst hab;rw[if_pos rfl,if_pos rfl];omega
  ·rw[if_neg hab,if_neg hab,Nat.add_zero];exact this
 ·intro b hb hcb;have:a≠b:=λe=>by subst e;rw[hc]at hcb;cases hcb
  rw[hget,if_neg this];exact h.nc b hb hcb
 ·intro b hb;rw[hget];by_cases hab:a=b
  ·subst hab;rw[if_pos rfl];split
   ·rename_i e;exact⟨λ_=>e,λ_=>by simp⟩
   ·rename_i e;exact⟨λhm=>absurd hm hna,λe'=>absurd e' e⟩
  ·rw[if_neg hab];rw[←h.zero b hb];split
   ·simp[Ne.symm hab]
   ·rfl
theorem a6b(l:List Nat)(S:List Nat)(x:Nat)(hx:x∉S):(l.filter λm=>decide (m∉S)).length=(l.filter λm=>decide (m∉S++[x])).length+l.count x:=by
 induction l with
 |nil=>rfl
 |cons a l ih=>
  simp only[List.filter_cons,List.count_cons];by_cases hax:a=x
  ·subst hax;simp[hx]at ih⊢;omega
  ·by_cases haS:a∈S
   ·simp[haS,hax]at ih⊢;omega
   ·simp[haS,hax]at ih⊢;omega
theorem Kahn.next(h:Kahn nodes left ready done L){x:Nat}(hx:ready[done]?=some x)(hL:∀a,a<nodes.length→cnt L a=(a2k nodes a).count x):Kahn nodes left ready (done+1) []:=by
 have hdl:=(List.getElem?_eq_some_iff.1 hx).1;have ht:=a1g hx;have hnx:x∉ready.take done:=by
  intro hm;obtain⟨i,hi⟩:=List.mem_iff_getElem?.1 hm;rw[List.getElem?_take]at hi;split at hi
  case isFalse=>cases hi
  have:=(List.getElem?_inj (by omega) h.nd).1 (hi.trans hx.symm);omega
 refine⟨h.ll,h.rn,h.nd,by omega,?_,h.nc,h.zero⟩;intro a ha hc;have:=h.eq a ha hc;rw[hL a ha]at this;unfold b8v at this⊢;rw[ht];rw[a6b _ _ x hnx]at this;simp only[cnt,List.map_nil,List.count_nil];omega
theorem d83{ready:List Nat}{done x a:Nat}(nd:ready.Nodup)(hx:ready[done]?=some x):(a2k nodes a).count x≤b8v nodes ready done a:=by
 have hdl:=(List.getElem?_eq_some_iff.1 hx).1;have hnx:x∉ready.take done:=by
  intro hm;obtain⟨i,hi⟩:=List.mem_iff_getElem?.1 hm;rw[List.getElem?_take]at hi;split at hi
  case isFalse=>cases hi
  have:=(List.getElem?_inj (by omega) nd).1 (hi.trans hx.symm);omega
 unfold b8v;rw[a6b _ _ x hnx];omega
theorem Kahn.all(h:Kahn nodes left ready ready.length [])(hac:∀(i:Nat) (x:Nd),nodes[i]?=some x→a1p x.kind=true→∀m∈x.ins,m<i):nodes.length≤ready.length:=by
 have key:∀n a,a≤n→a<nodes.length→a∈ready:=by
  intro n
  induction n with
  |zero=>
   intro a han ha;obtain rfl:a=0:=by omega
   rw[h.zero 0 ha];cases hc:a1p (a0x nodes 0)with
   |false=>exact h.nc 0 ha hc
   |true=>
    obtain⟨x,hx⟩:∃x,nodes[0]?=some x:=⟨_,List.getElem?_eq_getElem ha⟩
    have he:=h.eq 0 ha hc;have hk:a0x nodes 0=x.kind:=by simp[a0x,hx]
    rw[hk]at hc;have hi:a2k nodes 0=[]:=by
     simp only[a2k,hx,Option.map_some,Option.getD_some];cases hins:x.ins with
     |nil=>rfl
     |cons m r=>have:=hac 0 x hx hc m (by simp[hins]);omega
    have:b8v nodes ready ready.length 0=0:=by simp[b8v,hi]
    omega
  |succ n ih=>
   intro a han ha;rw[h.zero a ha];cases hc:a1p (a0x nodes a)with
   |false=>exact h.nc a ha hc
   |true=>
    obtain⟨x,hx⟩:∃x,nodes[a]?=some x:=⟨_,List.getElem?_eq_getElem ha⟩
    have he:=h.eq a ha hc;have hk:a0x nodes a=x.kind:=by simp[a0x,hx]
    rw[hk]at hc;have hi:a2k nodes a=x.ins:=a22 hx;have:b8v nodes ready ready.length a=0:=by unfold b8v;rw[hi,List.take_length,List.length_eq_zero_iff,List.filter_eq_nil_iff];intro m hm;have h1:=hac a x hx hc m hm;have h2:=ih m (by omega) (by omega);simp[h2]
    omega
 have:=b3i (l:=List.range nodes.length) (T:=ready) List.nodup_range (λa ha=>key a a (Nat.le_refl _) (by simpa using ha));simpa using this
theorem Kahn.bound(h:Kahn nodes left ready done L):ready.length≤nodes.length:=by have:=b3i h.nd (T:=List.range nodes.length) (λa ha=>by simpa using h.rn a ha);simpa using this
end
end Go.Pc
/- PcPerm: exchanging neighbours. Plain. -/
namespace Go.Pc
theorem c7a{l:List Nat}{j x y:Nat}(hj:l[j+1]?=some x)(hi:l[j]?=some y):((l.set (j+1) y).set j x).Perm l:=by
 induction l generalizing j with
 |nil=>simp at hj
 |cons a l ih=>
  cases j with
  |zero=>
   cases l with
   |nil=>simp at hj
   |cons b l=>simp only[List.getElem?_cons_succ,List.getElem?_cons_zero,Option.some.injEq]at hj hi;subst hj;subst hi;exact List.Perm.swap ..
  |succ j=>simp only[List.getElem?_cons_succ]at hj hi;simp only[List.set_cons_succ];exact(ih hj hi).cons a
def d6l(a b:Nat):Int:=if a<b then -1 else if b<a then 1 else 0
end Go.Pc
/- PcReach: which nets a net depends on; faults that are valid. Plain. -/
namespace Go.Pc
open Go.Ax
inductive DepOn(nodes:List Nd):Nat→Nat→Prop
 |refl (a:Nat):DepOn nodes a a
 |step {a m b:Nat} (hk:a0x nodes a≠14) (hm:m∈a2k nodes a) (h:DepOn nodes m b):DepOn nodes a b
theorem DepOn.cases{nodes:List Nd}{a b:Nat}(h:DepOn nodes a b):a=b∨(a0x nodes a≠14∧∃m,m∈a2k nodes a∧DepOn nodes m b):=by
 cases h with
 |refl=>exact .inl rfl
 |step hk hm h=>exact .inr ⟨hk,_,hm,h⟩
theorem DepOn.not_dff{nodes:List Nd}{a b:Nat}(hab:a≠b)(hk:a0x nodes a=14):¬DepOn nodes a b:=λh=>by
 rcases h.cases with e|⟨h1,_⟩
 ·exact hab e
 ·exact h1 hk
theorem Cir.wf.comb_of{c:Cir}(h:c.wf){x:Nd}(hx:x∈c.nodes)(hp:0<x.ins.length)(h14:x.kind≠14):a1p x.kind=true:=by
 have h1:=h.kind x hx;have h2:=h.hi x hx;have h3:x.kind≠0:=by intro e;rw[e]at h2;have:a24 0=0:=rfl;omega
 simp[a1p];omega
structure FltOk(nodes:List Nd)(f:Flt):Prop where
 model:f.model=0∨f.model=2∨f.model=3
 node:f.node<nodes.length
 pin:-1≤f.pin∧f.pin<(a2k nodes f.node).length
 value:f.value≤1
 other:f.other<nodes.length
 stuck:f.model=0→f.other=0
 bridge:f.model≠0→f.pin = -1∧f.node≠f.other∧(f.model=2→f.node≤f.other)∧(f.model=3→f.value=0)∧a0x nodes f.node≠12∧a0x nodes f.other≠12∧¬DepOn nodes f.node f.other∧¬DepOn nodes f.other f.node
end Go.Pc
/- PcRun: the simulation, step by step. Plain. -/
namespace Go.Pc
open Go.Ax
section
variable {α:Type}{A:Alg α}{nodes:List Nd}{h:Hk α}
theorem c8a{n:Nat}{nets:List α}:∀{l:List Nat} {p i m:Nat},l[i]?=some m→(a57 A h n nets p l)[i]?=some (h.pin n (p+i) (nets.getD m A.z))
 | [],p,i,m,hm=>by simp at hm
 |a::l,p,0,m,hm=>by simp at hm;subst hm;rfl
 |a::l,p,i+1,m,hm=>by simp only[List.getElem?_cons_succ]at hm;simp only[a57,List.getElem?_cons_succ,c8a (p:=p+1) hm];rw[show p+1+i=p+(i+1) by omega]
theorem c88{n:Nat}{nets:List α}:∀(l:List Nat) (p:Nat),(a57 A h n nets p l).length=l.length
 | [],_=>rfl
 |a::l,p=>by simp[a57,c88 l]
theorem a8k{nets:List α}{n:Nat}:(a1k A nodes h nets n).length=(a2k nodes n).length:=c88 _ _
theorem b5n{nets:List α}{n i m:Nat}{v:α}(hm:(a2k nodes n)[i]?=some m)(hv:nets[m]?=some v):(a1k A nodes h nets n).take (i+1)=(a1k A nodes h nets n).take i++[h.pin n i v]:=by have:=c8a (A:=A) (h:=h) (n:=n) (nets:=nets) (p:=0) hm;rw[Nat.zero_add,List.getD,hv]at this;exact a1g this
theorem b63:∀{is:List Nat} {vs:List α} {nets:List α} {a:Nat} {v:α},is.length=vs.length→a1u nets (is++[a]) (vs++[v])=(a1u nets is vs).set a v
 | [],[],nets,a,v,_=>rfl
 | [],_::_,_,_,_,h=>by simp at h
 |_::_,[],_,_,_,h=>by simp at h
 |i::is,w::vs,nets,a,v,h=>by simp only[List.cons_append,a1u];exact b63 (by simpa using h)
theorem a4d:∀(is:List Nat) (vs:List α) (nets:List α),(a1u nets is vs).length=nets.length
 | [],vs,nets=>by cases vs<;>rfl
 |i::is,[],nets=>rfl
 |i::is,v::vs,nets=>by simp[a1u,a4d is vs]
theorem a8q{is:List Nat}{vs nets:List α}{i a:Nat}{v:α}(h1:is[i]?=some a)(h2:vs[i]?=some v):a1u nets (is.take (i+1)) (vs.take (i+1))=(a1u nets (is.take i) (vs.take i)).set a v:=by rw[a1g h1,a1g h2];have l1:=(List.getElem?_eq_some_iff.1 h1).1;have l2:=(List.getElem?_eq_some_iff.1 h2).1;exact b63 (by rw[List.length_take,List.length_take];omega)
theorem c7h(nets:List α)(n:Nat):(stepG A nodes h nets n).length=nets.length:=by unfold stepG;simp
theorem b84(l:List Nat)(nets:List α):(l.foldl (stepG A nodes h) nets).length=nets.length:=by
 induction l generalizing nets with
 |nil=>rfl
 |cons a l ih=>rw[List.foldl_cons,ih,c7h]
theorem c8n(ord ins sts:List Nat)(vi vs:List α):(c5b A nodes h ord ins sts vi vs).length=nodes.length:=by unfold c5b;rw[b84,a4d,a4d];simp
theorem c07{l:List Nat}{nets:List α}{i n:Nat}(hn:l[i]?=some n):(l.take (i+1)).foldl (stepG A nodes h) nets=stepG A nodes h ((l.take i).foldl (stepG A nodes h) nets) n:=by rw[a1g hn,List.foldl_append];rfl
end
end Go.Pc
/- PcLev: levels of nodes; orders in which a42 node stands behind what it d2r. Plain. -/
namespace Go.Pc
open Go.Ax
structure Lev(nodes:List Nd)(lv ready:List Nat)(done:Nat)(L:List (Nat×Nat)):Prop where
 old:∀a,a<nodes.length→a1p (a0x nodes a)=true→∀m∈a2k nodes a,m∈ready.take done→lv.getD m 0<lv.getD a 0
 now:∀l∈L,a1p (a0x nodes l.1)=true→∀x,ready[done]?=some x→lv.getD x 0<lv.getD l.1 0
theorem Lev.start(nodes:List Nd)(lv ready:List Nat):Lev nodes lv ready 0 []:=⟨λa _ _ m _ hm=>by simp at hm,λl hl=>by simp at hl⟩
section
variable {nodes:List Nd}{lv left ready:List Nat}{done:Nat}{L:List (Nat×Nat)}
theorem Lev.skip(h:Lev nodes lv ready done L){a p:Nat}(hc:a1p (a0x nodes a)=false):Lev nodes lv ready done (L++[(a,p)]):=by
 refine⟨h.old,λl hl hcl=>?_⟩;rcases List.mem_append.1 hl with hl|hl
 ·exact h.now l hl hcl
 ·rw[List.mem_singleton.1 hl]at hcl;rw[hc]at hcl;cases hcl
theorem b28(lv:List Nat)(a v b:Nat)(ha:a<lv.length):(lv.set a v).getD b 0=if a=b then v else lv.getD b 0:=by
 simp only[List.getD_eq_getElem?_getD,List.getElem?_set];by_cases hab:a=b
 ·subst hab;simp[ha]
 ·simp[hab]
theorem Lev.dec(h:Lev nodes lv ready done L){a p x va vx:Nat}(hx:ready[done]?=some x)(hna:a∉ready)(hva:lv[a]?=some va)(hvx:lv[x]?=some vx){ready':List Nat}(hr:ready'=ready∨ready'=ready++[a]) :
 Lev nodes (lv.set a (max va (vx+1))) ready' done (L++[(a,p)]):=by
 have hal:=(List.getElem?_eq_some_iff.1 hva).1;have hdl:=(List.getElem?_eq_some_iff.1 hx).1;have hxr:x∈ready:=List.mem_of_getElem? hx;have hax:a≠x:=λe=>hna (e▸hxr);have ea:lv.getD a 0=va:=by rw[List.getD,hva];rfl
 have ex:lv.getD x 0=vx:=by rw[List.getD,hvx];rfl
 have ht:ready'.take done=ready.take done:=by
  rcases hr with rfl|rfl
  ·rfl
  ·exact List.take_append_of_le_length (by omega)
 have hx':ready'[done]?=some x:=by
  rcases hr with rfl|rfl
  ·exact hx
  ·rw[List.getElem?_append_left hdl];exact hx
 have up:∀b,lv.getD b 0≤(lv.set a (max va (vx+1))).getD b 0:=by
  intro b;rw[b28 _ _ _ _ hal];split
  ·rename_i e;subst e;rw[ea];exact Nat.le_max_left _ _
  ·exact Nat.le_refl _
 refine⟨?_,?_⟩
 ·intro b hb hcb m hm hmr;rw[ht]at hmr;have hma:a≠m:=λe=>hna (e▸List.mem_of_mem_take hmr);rw[b28 _ _ _ m hal,if_neg hma];exact Nat.lt_of_lt_of_le (h.old b hb hcb m hm hmr) (up b)
 ·intro l hl hcl y hy;rw[hx']at hy;cases hy;rw[b28 _ _ _ x hal,if_neg hax];rcases List.mem_append.1 hl with hl|hl
  ·exact Nat.lt_of_lt_of_le (h.now l hl hcl x hx) (up _)
  ·rw[List.mem_singleton.1 hl,b28 _ _ _ _ hal,if_pos rfl,ex];exact Nat.lt_of_lt_of_le (Nat.lt_succ_self _) (Nat.le_max_right _ _)
theorem Lev.next(h:Lev nodes lv ready done L){x:Nat}(hx:ready[done]?=some x)(hL:∀a,a<nodes.length→cnt L a=(a2k nodes a).count x):Lev nodes lv ready (done+1) []:=by
 refine⟨?_,λl hl=>by simp at hl⟩;intro a ha hc m hm hmr;rw[a1g hx]at hmr;rcases List.mem_append.1 hmr with hmr|hmr
 ·exact h.old a ha hc m hm hmr
 ·rw[List.mem_singleton.1 hmr]at hm⊢;have h1:=hL a ha;have h2:0<(a2k nodes a).count x:=List.count_pos_iff.2 hm;rw[←h1]at h2;unfold Pc.cnt at h2;obtain⟨l,hl,rfl⟩:=List.mem_map.1 (List.count_pos_iff.1 h2);exact h.now l hl hc x hx
def Rises(nodes:List Nd)(lv:List Nat):Prop:=∀a,a<nodes.length→a1p (a0x nodes a)=true→∀m∈a2k nodes a,m<nodes.length→lv.getD m 0<lv.getD a 0
theorem Lev.all(h:Lev nodes lv ready ready.length [])(hk:Kahn nodes left ready ready.length [])(hall:nodes.length≤ready.length):Rises nodes lv:=by
 intro a ha hc m hm hmn;refine h.old a ha hc m hm ?_;rw[List.take_length];by_cases hmr:m∈ready
 ·exact hmr
 ·have hs:=b3i (l:=m::ready) (T:=List.range nodes.length) (List.nodup_cons.2 ⟨hmr,hk.nd⟩) (λb hb=>by
   rcases List.mem_cons.1 hb with rfl|hb
   ·simpa using hmn
   ·simpa using hk.rn b hb)
  simp at hs;omega
end
def e4q(nodes:List Nd)(ord:List Nat):Prop:=∀(i n:Nat),ord[i]?=some n→a1p (a0x nodes n)=true→∀m∈a2k nodes n,m∈ord.take i
theorem Rises.topo{nodes:List Nd}{lv ord:List Nat}(h:Rises nodes lv)(hp:ord.Perm (List.range nodes.length))(hs:ord.Pairwise λx y=>lv.getD x 0≤lv.getD y 0)(hin:∀n,n<nodes.length→∀m∈a2k nodes n,m<nodes.length):e4q nodes ord:=by
 intro i n hi hc m hm;have hn:n<nodes.length:=by have:=hp.mem_iff.1 (List.mem_of_getElem? hi);simpa using this
 have hmn:=hin n hn m hm;obtain⟨j,hj⟩:=List.mem_iff_getElem?.1 (hp.mem_iff.2 (List.mem_range.2 hmn));have hlt:=h n hn hc m hm hmn;have hil:=(List.getElem?_eq_some_iff.1 hi).1;have hjl:=(List.getElem?_eq_some_iff.1 hj).1;by_cases hji:j<i
 ·exact List.mem_iff_getElem?.2 ⟨j,by rw[List.getElem?_take,if_pos hji];exact hj⟩
 ·exfalso;by_cases hij:i=j
  ·subst hij;rw[hi]at hj;cases hj;omega
  ·have:=List.pairwise_iff_getElem.1 hs i j hil hjl (by omega);rw[(List.getElem?_eq_some_iff.1 hi).2,(List.getElem?_eq_some_iff.1 hj).2]at this;omega
theorem Cir.wf.inAt{c:Cir}(h:c.wf):∀n,n<c.nodes.length→∀m∈a2k c.nodes n,m<c.nodes.length:=by
 intro n hn m hm;obtain⟨x,hx⟩:∃x,c.nodes[n]?=some x:=⟨_,List.getElem?_eq_getElem hn⟩
 rw[a22 hx]at hm;exact h.ins x (List.mem_of_getElem? hx) m hm
/-! ### insertion -/
def SortJ(key:Nat→Nat)(d:List Nat)(i j:Nat):Prop:=∀p q x y,p<q→q≤i→q≠j→d[p]?=some x→d[q]?=some y→key x≤key y
def SortI(key:Nat→Nat)(d:List Nat)(i:Nat):Prop:=∀p q x y,p<q→q<i→d[p]?=some x→d[q]?=some y→key x≤key y
theorem SortI.start{key:Nat→Nat}{d:List Nat}{i:Nat}(h:SortI key d i):SortJ key d i i:=λp q x y h1 h2 h3=>h p q x y h1 (by omega)
theorem SortI.one{key:Nat→Nat}{d:List Nat}:SortI key d 1:=λp q x y h1 h2=>by omega
theorem SortJ.stop{key:Nat→Nat}{d:List Nat}{i j:Nat}(h:SortJ key d i j)(hj:j=0∨∃x y,d[j-1]?=some x∧d[j]?=some y∧key x≤key y):SortI key d (i+1):=by
 intro p q x y h1 h2 hx hy;by_cases hq:q=j
 ·subst hq;rcases hj with rfl|⟨x',y',h3,h4,h5⟩
  ·omega
  ·rw[hy]at h4;cases h4;by_cases hp:p=q-1
   ·subst hp;rw[hx]at h3;cases h3;exact h5
   ·exact Nat.le_trans (h p (q-1) x x' (by omega) (by omega) (by omega) hx h3) h5
 ·exact h p q x y h1 (by omega) hq hx hy
theorem SortJ.swap{key:Nat→Nat}{d:List Nat}{i j:Nat}(h:SortJ key d i (j+1))(hji:j+1≤i){x y:Nat}(hx:d[j]?=some x)(hy:d[j+1]?=some y)(hlt:key y<key x):SortJ key ((d.set (j+1) x).set j y) i j:=by
 have hjl:=(List.getElem?_eq_some_iff.1 hy).1;have hg:∀p,((d.set (j+1) x).set j y)[p]?=if p=j then some y else if p=j+1 then some x else d[p]?:=by
  intro p;rw[List.getElem?_set,List.getElem?_set];simp only[List.length_set];by_cases h1:j=p
  ·subst h1;simp;omega
  ·by_cases h2:j+1=p
   ·subst h2;simp;omega
   ·simp[h1,h2,Ne.symm h1,Ne.symm h2]
 intro p q u v h1 h2 h3 hu hv;rw[hg]at hu hv;rw[if_neg h3]at hv;by_cases hq:q=j+1
 ·rw[if_pos hq]at hv;cases hv;by_cases hp:p=j
  ·rw[if_pos hp]at hu;cases hu;omega
  ·rw[if_neg hp,if_neg (by omega)]at hu;exact h p j u x (by omega) (by omega) (by omega) hu hx
 ·rw[if_neg hq]at hv;by_cases hp:p=j
  ·rw[if_pos hp]at hu;cases hu;exact h (j+1) q y v (by omega) h2 (by omega) hy hv
  ·rw[if_neg hp]at hu;by_cases hp2:p=j+1
   ·rw[if_pos hp2]at hu;cases hu;exact h j q x v (by omega) h2 (by omega) hx hv
   ·rw[if_neg hp2]at hu;exact h p q u v h1 h2 (by omega) hu hv
theorem SortI.pairwise{key:Nat→Nat}{d:List Nat}(h:SortI key d d.length):d.Pairwise λx y=>key x≤key y:=by rw[List.pairwise_iff_getElem];intro i j hi hj hij;exact h i j _ _ hij hj (List.getElem?_eq_getElem hi) (List.getElem?_eq_getElem hj)
end Go.Pc
/- PcLog: gates over the values 0, 1, X and Z; they are the gates over pairs of bits. Plain. -/
namespace Go.Pc
open Go.Ax
def a58(v:Nat):Nat:=min v 2
def b24(v:Nat):Nat:=if v≤1 then 1-v else 2
def a6g(low high:Nat):Nat→List Nat→Nat
 |out,[]=>out
 |out,v::r=>if v=low then low else a6g low high (if v=high then out else 2) r
def b57:Nat→List Nat→Nat
 |out,[]=>out
 |out,v::r=>if v≤1 then b57 (out^^^v) r else 2
def b9m(s a b:Nat):Nat:=if s=0 then a58 a else if s=1 then a58 b else if a=b then a58 a else 2
def c1w(e d:Nat):Nat:=if e=0 then 3 else if e=1 then a58 d else 2
def d6c(l:List Nat):Nat:=match l.findIdx? (λv=>decide (v≠3))with
 |none=>3
 |some i=>if(decide (0∈l)&&decide (1∈l))||l.any (λv=>decide (a4k v=2))then 2 else l.getD i 0
def a4b(k:Nat)(l:List Nat):Nat:=match k with
 |1=>0
 |2=>1
 |3=>a58 (l.getD 0 2)
 |4=>b24 (l.getD 0 2)
 |5=>a6g 0 1 1 l
 |6=>b24 (a6g 0 1 1 l)
 |7=>a6g 1 0 0 l
 |8=>b24 (a6g 1 0 0 l)
 |9=>b57 0 l
 |10=>b24 (b57 0 l)
 |11=>b9m (l.getD 0 2) (l.getD 1 2) (l.getD 2 2)
 |12=>c1w (l.getD 0 2) (l.getD 1 2)
 |13=>d6c l
 |_=>2
def a3v(k:Nat)(l:List Nat):Nat:=if l.length<a23 k∨a24 k<l.length then 2 else a4b k l
def vR(v:Nat):V2:=c12 (a13 v)
theorem c2e(P:Nat→Prop)(h0:P 0)(h1:P 1)(h2:P 2)(h3:P 3){v:Nat}(hv:v≤3):P v:=by
 have:v=0∨v=1∨v=2∨v=3:=by omega
 rcases this with rfl|rfl|rfl|rfl<;>assumption
theorem c4j{v:Nat}(hv:v≤3):a13 (a58 v)=c12 (a13 v)∧a58 v≤3:=c2e (λv=>a13 (a58 v)=c12 (a13 v)∧a58 v≤3) (by decide) (by decide) (by decide) (by decide) hv
theorem c8h{v:Nat}(hv:v≤3):a13 (b24 v)=c71 (c12 (a13 v))∧b24 v≤3:=c2e (λv=>a13 (b24 v)=c71 (c12 (a13 v))∧b24 v≤3) (by decide) (by decide) (by decide) (by decide) hv
theorem b0o{v:Nat}(hv:v≤2):a13 (b24 v)=c71 (a13 v)∧b24 v≤3:=by
 have:v=0∨v=1∨v=2:=by omega
 rcases this with rfl|rfl|rfl<;>decide
theorem d1a:∀(l:List V2),l.foldl c4n (false,true)=(false,true)
 | []=>rfl
 |a::l=>by rw[List.foldl_cons,show c4n (false,true) a=(false,true) by simp[c4n]];exact d1a l
theorem d68:∀(l:List V2),l.foldl vOr (true,false)=(true,false)
 | []=>rfl
 |a::l=>by rw[List.foldl_cons,show vOr (true,false) a=(true,false) by simp[vOr]];exact d68 l
theorem c0x:∀(l:List V2),l.foldl c4m (false,false)=(false,false)
 | []=>rfl
 |a::l=>by rw[List.foldl_cons,show c4m (false,false) a=(false,false) by simp[c4m]];exact c0x l
theorem b08:∀(l:List Nat) (out:Nat),(out=1∨out=2)→(∀v∈l,v≤3)→(l.map vR).foldl c4n (a13 out)=a13 (a6g 0 1 out l)∧a6g 0 1 out l≤2
 | [],out,ho,_=>by rcases ho with rfl|rfl<;>decide
 |v::l,out,ho,hv=>by
  have hl:=λv h=>hv v (List.mem_cons_of_mem _ h);rw[List.map_cons,List.foldl_cons];refine c2e (λv=>(l.map vR).foldl c4n (c4n (a13 out) (vR v))=a13 (a6g 0 1 out (v::l))∧a6g 0 1 out (v::l)≤2) ?_ ?_ ?_ ?_ (hv v (List.mem_cons_self ..))
  ·have:c4n (a13 out) (vR 0)=(false,true):=by rcases ho with rfl|rfl<;>decide
   rw[this,d1a];simp only[a6g,if_true];decide
  ·have:c4n (a13 out) (vR 1)=a13 out:=by rcases ho with rfl|rfl<;>decide
   rw[this];simp only[a6g];exact b08 l out ho hl
  ·have:c4n (a13 out) (vR 2)=a13 2:=by rcases ho with rfl|rfl<;>decide
   rw[this];simp only[a6g];exact b08 l 2 (.inr rfl) hl
  ·have:c4n (a13 out) (vR 3)=a13 2:=by rcases ho with rfl|rfl<;>decide
   rw[this];simp only[a6g];exact b08 l 2 (.inr rfl) hl
theorem b31:∀(l:List Nat) (out:Nat),(out=0∨out=2)→(∀v∈l,v≤3)→(l.map vR).foldl vOr (a13 out)=a13 (a6g 1 0 out l)∧a6g 1 0 out l≤2
 | [],out,ho,_=>by rcases ho with rfl|rfl<;>decide
 |v::l,out,ho,hv=>by
  have hl:=λv h=>hv v (List.mem_cons_of_mem _ h);rw[List.map_cons,List.foldl_cons];refine c2e (λv=>(l.map vR).foldl vOr (vOr (a13 out) (vR v))=a13 (a6g 1 0 out (v::l))∧a6g 1 0 out (v::l)≤2) ?_ ?_ ?_ ?_ (hv v (List.mem_cons_self ..))
  ·have:vOr (a13 out) (vR 0)=a13 out:=by rcases ho with rfl|rfl<;>decide
   rw[this];simp only[a6g];exact b31 l out ho hl
  ·have:vOr (a13 out) (vR 1)=(true,false):=by rcases ho with rfl|rfl<;>decide
   rw[this,d68];simp only[a6g,if_true];decide
  ·have:vOr (a13 out) (vR 2)=a13 2:=by rcases ho with rfl|rfl<;>decide
   rw[this];simp only[a6g];exact b31 l 2 (.inr rfl) hl
  ·have:vOr (a13 out) (vR 3)=a13 2:=by rcases ho with rfl|rfl<;>decide
   rw[this];simp only[a6g];exact b31 l 2 (.inr rfl) hl
theorem b1y:∀(l:List Nat) (out:Nat),(out=0∨out=1)→(∀v∈l,v≤3)→(l.map vR).foldl c4m (a13 out)=a13 (b57 out l)∧b57 out l≤2
 | [],out,ho,_=>by rcases ho with rfl|rfl<;>decide
 |v::l,out,ho,hv=>by
  have hl:=λv h=>hv v (List.mem_cons_of_mem _ h);rw[List.map_cons,List.foldl_cons];refine c2e (λv=>(l.map vR).foldl c4m (c4m (a13 out) (vR v))=a13 (b57 out (v::l))∧b57 out (v::l)≤2) ?_ ?_ ?_ ?_ (hv v (List.mem_cons_self ..))
  ·have:c4m (a13 out) (vR 0)=a13 out:=by rcases ho with rfl|rfl<;>decide
   rw[this];simp only[b57,Nat.xor_zero];exact b1y l out ho hl
  ·have:c4m (a13 out) (vR 1)=a13 (out^^^1):=by rcases ho with rfl|rfl<;>decide
   rw[this];simp only[b57];exact b1y l (out^^^1) (by rcases ho with rfl|rfl<;>decide) hl
  ·have:c4m (a13 out) (vR 2)=(false,false):=by rcases ho with rfl|rfl<;>decide
   rw[this,c0x];exact⟨rfl,by show(2:Nat)≤2;decide⟩
  ·have:c4m (a13 out) (vR 3)=(false,false):=by rcases ho with rfl|rfl<;>decide
   rw[this,c0x];exact⟨rfl,by show(2:Nat)≤2;decide⟩
theorem d33{s a b:Nat}(hs:s≤3)(ha:a≤3)(hb:b≤3):a13 (b9m s a b)=e4y (vR s) (vR a) (vR b)∧b9m s a b≤3:=by
 have h:∀s:Fin 4,∀a:Fin 4,∀b:Fin 4,a13 (b9m s a b)=e4y (vR s) (vR a) (vR b)∧b9m s a b≤3:=by decide
 exact h ⟨s,by omega⟩ ⟨a,by omega⟩ ⟨b,by omega⟩
theorem d24{e d:Nat}(he:e≤3)(hd:d≤3):a13 (c1w e d)=e4x (vR e) (vR d)∧c1w e d≤3:=by
 have h:∀e:Fin 4,∀d:Fin 4,a13 (c1w e d)=e4x (vR e) (vR d)∧c1w e d≤3:=by decide
 exact h ⟨e,by omega⟩ ⟨d,by omega⟩
theorem d6n:∀(l:List Nat) (s:Bool×Bool×Bool),(∀v∈l,v≤3)→(l.map a13).foldl c4l s=(s.1||decide (1∈l),s.2.1||decide (0∈l),s.2.2||decide (2∈l))
 | [],s,_=>by simp
 |v::l,s,hv=>by
  have hl:=λv h=>hv v (List.mem_cons_of_mem _ h);rw[List.map_cons,List.foldl_cons,d6n l _ hl];obtain⟨a,b,c⟩:=s;refine c2e (λv=>((c4l (a,b,c) (a13 v)).1||decide (1∈l),(c4l (a,b,c) (a13 v)).2.1||decide (0∈l),(c4l (a,b,c) (a13 v)).2.2||decide (2∈l))=(a||decide (1∈v::l),b||decide (0∈v::l),c||decide (2∈v::l))) ?_ ?_ ?_ ?_ (hv v (List.mem_cons_self ..)) <;>
   simp[c4l,a13,a4k,List.mem_cons]
theorem d55(l:List Nat)(hv:∀v∈l,v≤3):a13 (d6c l)=e76 (l.map a13)∧d6c l≤3:=by
 have hx:l.any (λv=>decide (a4k v=2))=decide (2∈l):=by
  rw[Bool.eq_iff_iff,List.any_eq_true,decide_eq_true_eq];constructor
  ·rintro⟨v,h,hc⟩
   have h3:=hv v h;have:v=2:=by revert hc h3;revert v;intro v _ hc h3;exact c2e (λv=>decide (a4k v=2)=true→v=2) (by decide) (by decide) (by decide) (by decide) h3 hc
   exact this▸h
  ·intro h;exact⟨2,h,by decide⟩
 unfold e76 d6c;rw[d6n l _ hv,hx];cases hf:l.findIdx? (λv=>decide (v≠3))with
 |none=>
  have hn:=List.findIdx?_eq_none_iff.1 hf;have h1:∀k,k≠3→k∉l:=λk hk hm=>by have:=hn k hm;simp[hk]at this
  simp only[h1 0 (by decide),h1 1 (by decide),h1 2 (by decide),decide_false,Bool.or_false];decide
 |some i=>
  obtain⟨hi,hp,_⟩:=List.findIdx?_eq_some_iff_getElem.1 hf;have hm:l.getD i 0∈l:=by rw[List.getD,List.getElem?_eq_getElem hi];exact List.getElem_mem hi
  have he:l.getD i 0≠3:=by rw[List.getD,List.getElem?_eq_getElem hi];simpa using hp
  have h3:=hv _ hm;show a13 (if _ then 2 else l.getD i 0)=_∧(if _ then 2 else l.getD i 0)≤3;generalize l.getD i 0=w at hm he h3⊢;have hw:w=0∨w=1∨w=2:=by omega
  simp only[Bool.false_or];by_cases h2:2∈l
  ·simp only[h2,decide_true,Bool.or_true,if_true];cases decide (1∈l)<;>cases decide (0∈l)<;>decide
  ·simp only[h2,decide_false,Bool.or_false];rcases hw with rfl|rfl|rfl
   ·simp only[hm,decide_true,Bool.true_and];cases decide (1∈l)<;>decide
   ·simp only[hm,decide_true,Bool.and_true];cases decide (0∈l)<;>decide
   ·exact absurd hm h2
theorem e88(l:List Nat):(l.map a13).map c12=l.map vR:=by rw[List.map_map];rfl
theorem a98(l:List Nat)(i:Nat)(hi:i<l.length):(l.map vR).getD i (false,false)=vR (l.getD i 2):=by simp only[List.getD_eq_getElem?_getD,List.getElem?_map,List.getElem?_eq_getElem hi,Option.map_some,Option.getD_some]
theorem d8z(l:List Nat)(hv:∀v∈l,v≤3)(i:Nat):l.getD i 2≤3:=by
 simp only[List.getD_eq_getElem?_getD];cases h:l[i]? with
 |none=>decide
 |some v=>exact hv v (List.mem_of_getElem? h)
theorem d0j(k:Nat)(l:List Nat)(hv:∀v∈l,v≤3):a13 (a3v k l)=e24 k (l.map a13)∧a3v k l≤3:=by
 unfold a3v e24;rw[List.length_map];split
 ·decide
 rename_i hlen;have lo:a23 k≤l.length:=by omega
 by_cases h13:k=13
 ·subst h13;rw[if_pos rfl];exact d55 l hv
 rw[if_neg h13,e88];have g:=d8z l hv;unfold a4b;split
 ·exact⟨rfl,by decide⟩
 ·exact⟨rfl,by decide⟩
 ·show a13 (a58 (l.getD 0 2))=(l.map vR).getD 0 (false,false)∧_;rw[a98 _ _ (Nat.lt_of_lt_of_le (by decide) lo)];exact c4j (g 0)
 ·show a13 (b24 (l.getD 0 2))=c71 ((l.map vR).getD 0 (false,false))∧_;rw[a98 _ _ (Nat.lt_of_lt_of_le (by decide) lo)];exact c8h (g 0)
 ·have:=b08 l 1 (.inl rfl) hv;exact⟨this.1.symm,by omega⟩
 ·have:=b08 l 1 (.inl rfl) hv;show a13 (b24 (a6g 0 1 1 l))=c71 ((l.map vR).foldl c4n (a13 1))∧_;rw[this.1];exact b0o this.2
 ·have:=b31 l 0 (.inl rfl) hv;exact⟨this.1.symm,by omega⟩
 ·have:=b31 l 0 (.inl rfl) hv;show a13 (b24 (a6g 1 0 0 l))=c71 ((l.map vR).foldl vOr (a13 0))∧_;rw[this.1];exact b0o this.2
 ·have:=b1y l 0 (.inl rfl) hv;exact⟨this.1.symm,by omega⟩
 ·have:=b1y l 0 (.inl rfl) hv;show a13 (b24 (b57 0 l))=c71 ((l.map vR).foldl c4m (a13 0))∧_;rw[this.1];exact b0o this.2
 ·show a13 (b9m (l.getD 0 2) (l.getD 1 2) (l.getD 2 2))=e4y ((l.map vR).getD 0 (false,false)) ((l.map vR).getD 1 (false,false)) ((l.map vR).getD 2 (false,false))∧_;rw[a98 _ _ (Nat.lt_of_lt_of_le (by decide) lo),a98 _ _ (Nat.lt_of_lt_of_le (by decide) lo),a98 _ _ (Nat.lt_of_lt_of_le (by decide) lo)];exact d33 (g 0) (g 1) (g 2)
 ·show a13 (c1w (l.getD 0 2) (l.getD 1 2))=e4x ((l.map vR).getD 0 (false,false)) ((l.map vR).getD 1 (false,false))∧_;rw[a98 _ _ (Nat.lt_of_lt_of_le (by decide) lo),a98 _ _ (Nat.lt_of_lt_of_le (by decide) lo)];exact d24 (g 0) (g 1)
 ·exact absurd rfl h13
 ·refine⟨?_,by decide⟩;unfold d5q;split<;>first|rfl|(exfalso;simp_all)
end Go.Pc
/- PcTwo: the simulation over values; what is laid into the nets before it begins does not matter. Plain. -/
namespace Go.Pc
open Go.Ax
theorem d4x(v:Nat):a4k v≤3:=by unfold a4k;split<;>omega
theorem c46{v:Nat}(h:v≤3):a4k v=v:=by unfold a4k;rw[if_neg (by omega)]
theorem b9o{l:List Nat}(h:∀v∈l,v≤3):l.map a4k=l:=by have:=List.map_congr_left (f:=a4k) (g:=λv=>v) (l:=l) (λv hv=>c46 (h v hv));rw[this,List.map_id']
def nAlg:Alg Nat:=⟨λk l=>a3v k (l.map a4k),0,λv=>v⟩
theorem b7j(k:Nat)(l:List Nat)(h:∀v∈l,v≤3):a3v k l≤3:=(d0j k l h).2
section
variable {α:Type}{A B:Alg α}(hev:A.ev=B.ev){nodes:List Nd}{h:Hk α}
end
end Go.Pc
/- PcDet: what a pattern detects, by values: the responses of the two runs contradict each other. Plain. -/
namespace Go.Pc
open Go.Ax
def b0p(nodes:List Nd)(h:Hk Nat)(nets:List Nat)(sts:List Nat):List Nat:=sts.map λn=>if(a1k nAlg nodes h nets n).getD 0 0=3 then 2 else(a1k nAlg nodes h nets n).getD 0 0
def d6v(h:Hk Nat):Prop:=(∀n v,v≤3→h.net n v≤3)∧∀n p v,v≤3→h.pin n p v≤3
theorem d6e:d6v hk0:=⟨λ_ _ h=>h,λ_ _ _ h=>h⟩
theorem b29{l:List Nat}(h:∀v∈l,v≤3)(n:Nat):l.getD n 0≤3:=by
 rw[List.getD];cases hn:l[n]? with
 |none=>decide
 |some v=>exact h v (List.mem_of_getElem? hn)
theorem c89{h:Hk Nat}(hh:d6v h){nets:List Nat}(hn:∀v∈nets,v≤3)(n:Nat):∀(l:List Nat) (p:Nat),∀v∈a57 nAlg h n nets p l,v≤3
 | [],p,v,hv=>by simp[a57]at hv
 |m::l,p,v,hv=>by
  simp only[a57,List.mem_cons]at hv;rcases hv with rfl|hv
  ·exact hh.2 _ _ _ (b29 hn m)
  ·exact c89 hh hn n l (p+1) v hv
theorem e3b(k:Nat)(l:List Nat):nAlg.ev k l≤3:=b7j k _ (λv hv=>by obtain⟨w,_,rfl⟩:=List.mem_map.1 hv;exact d4x w)
theorem c7e{nodes:List Nd}{h:Hk Nat}(hh:d6v h){nets:List Nat}(hn:∀v∈nets,v≤3)(n:Nat):∀v∈stepG nAlg nodes h nets n,v≤3:=by
 intro v hv;unfold stepG at hv;rcases List.mem_or_eq_of_mem_set hv with h1|h1
 ·exact hn v h1
 ·rw[h1];refine hh.1 _ _ ?_;split
  ·exact e3b _ _
  ·exact b29 hn n
theorem d09{nodes:List Nd}{h:Hk Nat}(hh:d6v h):∀(ord:List Nat) (nets:List Nat),(∀v∈nets,v≤3)→∀v∈ord.foldl (stepG nAlg nodes h) nets,v≤3
 | [],nets,hn=>hn
 |x::ord,nets,hn=>by rw[List.foldl_cons];exact d09 hh ord _ (c7e hh hn x)
theorem b3e:∀(is vs N:List Nat),(∀v∈N,v≤3)→(∀v∈vs,v≤3)→∀v∈a1u N is vs,v≤3
 | [],vs,N,h,_=>by cases vs<;>exact h
 |_::_,[],N,h,_=>h
 |i::is,w::vs,N,h,hv=>by
  simp only[a1u];refine b3e is vs _ (λv hm=>?_) (λv hm=>hv v (List.mem_cons_of_mem _ hm));rcases List.mem_or_eq_of_mem_set hm with h1|h1
  ·exact h v h1
  ·rw[h1];exact hv w (List.mem_cons_self ..)
theorem b7i{nodes:List Nd}{h:Hk Nat}(hh:d6v h)(ord ins sts vi vs:List Nat)(hi:∀v∈vi,v≤3)(hs:∀v∈vs,v≤3):∀v∈c5b nAlg nodes h ord ins sts vi vs,v≤3:=d09 hh _ _ (b3e _ _ _ (b3e _ _ _ (λv hv=>by rw[List.eq_of_mem_replicate hv];show(0:Nat)≤3;decide) hi) hs)
structure Sim.good(S:Sim):Prop where
 perm:S.ord.Perm (List.range S.nodes.length)
 topo:e4q S.nodes S.ord
 comb:∀n,n<S.nodes.length→a0x S.nodes n≠0∧a0x S.nodes n≠14→a1p (a0x S.nodes n)=true
 inn:∀n,n<S.nodes.length→∀m∈a2k S.nodes n,m<S.nodes.length
 ins:∀n,n∈S.ins↔n<S.nodes.length∧a0x S.nodes n=0
 sts:∀n,n∈S.sts↔n<S.nodes.length∧a0x S.nodes n=14
 dff:∀n∈S.sts,a2k S.nodes n≠[]
 outs:∀n∈S.outs,n<S.nodes.length
section
variable {S:Sim}(hS:S.good){p:Pat}(hpi:S.ins.length=p.ins.length)(hps:S.sts.length=p.sts.length)
include hS hpi hps
end
end Go.Pc
/- PcMono: more is known, no less is found: a run whose inputs tell more gives nets that tell more. Plain. -/
namespace Go.Pc
open Go.Ax
def le2(a b:Nat):Prop:=a=b∨a=2
structure HkM(h g:Hk Nat):Prop where
 net:∀n v w,le2 v w→le2 (h.net n v) (g.net n w)
 pin:∀n p v w,le2 v w→le2 (h.pin n p v) (g.pin n p w)
section
variable {nodes:List Nd}{h g:Hk Nat}(hh:HkM h g)
include hh
end
end Go.Pc
