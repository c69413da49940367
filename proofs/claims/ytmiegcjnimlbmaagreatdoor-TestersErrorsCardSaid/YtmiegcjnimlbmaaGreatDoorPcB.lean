/- PcWord: words of 64 values as d17 data. Plain definitions. -/
import Derived.Test.YtmiegcjnimlbmaaGreatDoorPcP
import Derived.Test.YtmiegcjnimlbmaaGreatDoorAxD
set_option linter.unusedSimpArgs false
set_option linter.unusedVariables false
namespace Go.Pc
open Go.Ax
structure W where
 one:BitVec 64
 zero:BitVec 64
def a51(v:Nat):Nat:=if 3<v then 2 else v
def a27(k:Nat):Nat:=[0,0,0,1,1,2,2,2,2,2,2,3,2,1,1,0].getD k 0
def a23(k:Nat):Nat:=[0,0,0,1,1,16,16,16,16,16,16,3,2,16,1,0].getD k 0
def a1r(k:Nat):Bool:=decide (1<=k)&&decide (k<=13)
end Go.Pc
/- PcSim: one cycle of a circuit, over words or over single values; lanes of words are single values. Plain definitions. -/
namespace Go.Pc
open Go.Ax
structure Alg(α:Type) where
 ev:Nat->List α->α
 z:α
 fill:Nat->α
structure Hk(α:Type) where
 net:Nat->α->α
 pin:Nat->Nat->α->α
structure Flt where
 model:Nat
 node:Nat
 pin:Int
 value:Nat
 other:Nat
def Flt.enc(f:Flt):List AV:=[.int .u8 f.model,.int .i64 f.node,.int .i64 f.pin,.int .u8 f.value,.int .i64 f.other]
structure Pat where
 ic:Rep
 ins:List Nat
 sc:Rep
 sts:List Nat
def Pat.enc(p:Pat):List AV:=[sl p.ic (p.ins.map u8R),sl p.sc (p.sts.map u8R)]
section
variable {α:Type}(A:Alg α)(nodes:List Nd)(h:Hk α)
def a0u(nodes:List Nd)(n:Nat):Nat:=(nodes[n]?.map Nd.kind).getD 0
def a28(nodes:List Nd)(n:Nat):List Nat:=(nodes[n]?.map Nd.ins).getD []
def a5t(n:Nat)(ag:List α):Nat->List Nat->List α
 |_,[]=>[]
 |p,m::r=>h.pin n p (ag.getD m A.z)::a5t n ag (p+1) r
def a1o(ag:List α)(n:Nat):List α:=a5t A h n ag 0 (a28 nodes n)
def stepG(ag:List α)(n:Nat):List α:=ag.set n (h.net n (if a0u nodes n≠0∧a0u nodes n≠14 then A.ev (a0u nodes n) (a1o A nodes h ag n)else ag.getD n A.z))
def a25(ag:List α):List Nat->List α->List α
 |i::is,v::vs=>a25 (ag.set i v) is vs
 |_,_=>ag
def c84(ord ins sts:List Nat)(vi vs:List α):List α:=ord.foldl (stepG A nodes h) (a25 (a25 (List.replicate nodes.length A.z) ins vi) sts vs)
def hk0:Hk α:=⟨λ_ w=>w,λ_ _ w=>w⟩
def a9z(good:List α)(f:Flt):α:=
 if f.model=0 then A.fill f.value
 else if f.model=3 then good.getD f.other A.z
 else if f.value=0 then A.ev 5 [good.getD f.node A.z,good.getD f.other A.z]
 else A.ev 7 [good.getD f.node A.z,good.getD f.other A.z]
def Flt.hitsNet(f:Flt)(n:Nat):Bool:=decide (f.pin<0)&&(decide (n=f.node)||(decide (f.model=2)&&decide (n=f.other)))
def Flt.hitsPin(f:Flt)(n p:Nat):Bool:=decide (0<=f.pin)&&(decide (n=f.node)&&decide ((p:Int)=f.pin))
def hkF(f:Flt)(v:α):Hk α:=⟨λn w=>if f.hitsNet n then v else w,λn p w=>if f.hitsPin n p then v else w⟩
end
structure Hom{α β:Type}(A:Alg α)(B:Alg β)(φ:α->β):Prop where
 ev:∀k l,φ (A.ev k l)=B.ev k (l.map φ)
 z:φ A.z=B.z
 fill:∀v,φ (A.fill v)=B.fill v
structure HkHom{α β:Type}(φ:α->β)(h:Hk α)(k:Hk β):Prop where
 net:∀n w,φ (h.net n w)=k.net n (φ w)
 pin:∀n p w,φ (h.pin n p w)=k.pin n p (φ w)
section
variable {α β:Type}{A:Alg α}{B:Alg β}{φ:α->β}(hφ:Hom A B φ){nodes:List Nd}{h:Hk α}{k:Hk β}(hk:HkHom φ h k)
include hφ
include hk
end
/-! ### single values -/
abbrev V2:=Bool×Bool
def a1e(v:Nat):V2:=match a51 v with
 |0=>(false,true)
 |1=>(true,false)
 |2=>(false,false)
 |_=>(true,true)
def c79(a b:V2):V2:=(a.1&&b.1,a.2||b.2)
def vOr(a b:V2):V2:=(a.1||b.1,a.2&&b.2)
def c78(a b:V2):V2:=(a.1&&b.2||a.2&&b.1,a.1&&b.1||a.2&&b.2)
def c34(w:V2):V2:=(w.1 && !(w.1&&w.2),w.2 && !(w.1&&w.2))
def c9x(w:V2):V2:=(w.2,w.1)
def e89(s a b:V2):V2:=(s.2&&a.1||s.1&&b.1||a.1&&b.1,s.2&&a.2||s.1&&b.2||a.2&&b.2)
def e88(e d:V2):V2:=(e.2||e.1&&d.1,e.2||e.1&&d.2)
def c77(s:Bool×Bool×Bool)(w:V2):Bool×Bool×Bool:=(s.1||(w.1 && !w.2),s.2.1||(w.2 && !w.1),s.2.2 || !(w.1||w.2))
def f0f(s:Bool×Bool×Bool):V2:=(!s.2.1 && !(s.2.2||(s.1&&s.2.1)),!s.1 && !(s.2.2||(s.1&&s.2.1)))
def f0g(l:List V2):V2:=f0f (l.foldl c77 (false,false,false))
def d8o(k:Nat)(r:List V2):V2:=match k with
 |1=>a1e 0
 |2=>a1e 1
 |3=>r.getD 0 (false,false)
 |4=>c9x (r.getD 0 (false,false))
 |5=>r.foldl c79 (a1e 1)
 |6=>c9x (r.foldl c79 (a1e 1))
 |7=>r.foldl vOr (a1e 0)
 |8=>c9x (r.foldl vOr (a1e 0))
 |9=>r.foldl c78 (a1e 0)
 |10=>c9x (r.foldl c78 (a1e 0))
 |11=>e89 (r.getD 0 (false,false)) (r.getD 1 (false,false)) (r.getD 2 (false,false))
 |12=>e88 (r.getD 0 (false,false)) (r.getD 1 (false,false))
 |_=>a1e 2
def e56(k:Nat)(l:List V2):V2:=
 if l.length<a27 k∨a23 k<l.length then a1e 2
 else if k=13 then f0g l
 else d8o k (l.map c34)
section
variable {j:Nat}(hj:j<64)
include hj
end
/-! ### contradictions -/
/-! ### a circuit -/
structure Sim where
 nodes:List Nd
 ord:List Nat
 ins:List Nat
 sts:List Nat
 outs:List Nat
section
variable {α:Type}(A:Alg α)(S:Sim)
end
end Go.Pc
/- PcWf: the circuits of the statements are valid. Plain. -/
namespace Go.Pc
open Go.Ax
structure Cir.wf(c:Cir):Prop where
 pos:0<c.nodes.length
 len:c.nodes.length<=14
 names:c.names=(List.range c.nodes.length).map a1l
 kind:∀x∈c.nodes,x.kind<=14
 lo:∀x∈c.nodes,a27 x.kind<=x.ins.length
 hi:∀x∈c.nodes,x.ins.length<=a23 x.kind
 ins:∀x∈c.nodes,∀m∈x.ins,m<c.nodes.length
 bus:∀x∈c.nodes,x.kind=13->∀m∈x.ins,a0u c.nodes m=12
 mem:∀x∈c.nodes,x.mem=0∧x.bit=0
 acyc:∀(i:Nat) (x:Nd),c.nodes[i]?=some x->a1r x.kind=true->∀m∈x.ins,m<i
 outs:∀o∈c.outs,o<c.nodes.length
 outl:c.outs.length<=4
theorem e2e{k:Nat}(h:k<6):a27 (5+k)=2∧a23 (5+k)=16:=by
 have:k=0∨k=1∨k=2∨k=3∨k=4∨k=5:=by omega
 rcases this with rfl|rfl|rfl|rfl|rfl|rfl<;>exact⟨rfl,rfl⟩
structure GateOk(ks:List Nat)(x:Nd):Prop where
 k1:1<=x.kind
 k13:x.kind<=13
 lo:a27 x.kind<=x.ins.length
 hi:x.ins.length<=a23 x.kind
 ins:∀m∈x.ins,m<ks.length
 bus:x.kind=13->∀m∈x.ins,ks[m]?=some 12
 mem:x.mem=0∧x.bit=0
theorem c50{ks:List Nat}{i:Nat}(h:i<(a9x ks).length):(a9x ks).getD i 0<ks.length∧ks[(a9x ks).getD i 0]?=some 12:=by
 have:(a9x ks).getD i 0∈a9x ks:=by rw[List.getD,List.getElem?_eq_getElem h];exact List.getElem_mem h
 exact c7a this
theorem b5c(bus:Bool)(g:GX)(ks:List Nat)(hp:0<ks.length):GateOk ks (a0k bus g ks):=by
 have a:=Nat.mod_lt g.i0 hp;have b:=Nat.mod_lt g.i1 hp;have d:=Nat.mod_lt g.i2 hp;unfold a0k;dsimp only;generalize(if bus=true then g.kind%13 else g.kind%9)=kind;split
 ·rename_i h6;obtain⟨e1,e2⟩:=e2e h6;split
  ·exact⟨by dsimp only;omega,by dsimp only;omega,by simp[e1],by simp[e2],by simp[a,b,d],by dsimp only;omega,⟨rfl,rfl⟩⟩
  ·exact⟨by dsimp only;omega,by dsimp only;omega,by simp[e1],by simp[e2],by simp[a,b],by dsimp only;omega,⟨rfl,rfl⟩⟩
 split
 ·exact⟨by dsimp only;omega,by dsimp only;omega,by simp[a27],by simp[a23],by simp[a],by simp,⟨rfl,rfl⟩⟩
 split
 ·exact⟨by dsimp only;omega,by dsimp only;omega,by simp[a27],by simp[a23],by simp[a,b,d],by simp,⟨rfl,rfl⟩⟩
 split
 ·exact⟨by dsimp only;omega,by dsimp only;omega,by simp[a27],by simp[a23],by simp[a,b],by simp,⟨rfl,rfl⟩⟩
 split
 ·rename_i h;have t0:=c50 (Nat.mod_lt g.i0 h.2);split
  ·have t1:=c50 (Nat.mod_lt (g.i0%(a9x ks).length+1) h.2);refine⟨by dsimp only;omega,by dsimp only;omega,by simp[a27],by simp[a23],?_,?_,⟨rfl,rfl⟩⟩
   ·intro m hm;simp only[List.mem_cons,List.not_mem_nil,or_false]at hm;rcases hm with rfl|rfl;exact t0.1;exact t1.1
   ·intro _ m hm;simp only[List.mem_cons,List.not_mem_nil,or_false]at hm;rcases hm with rfl|rfl;exact t0.2;exact t1.2
  ·refine⟨by dsimp only;omega,by dsimp only;omega,by simp[a27],by simp[a23],?_,?_,⟨rfl,rfl⟩⟩
   ·intro m hm;simp only[List.mem_cons,List.not_mem_nil,or_false]at hm;subst hm;exact t0.1
   ·intro _ m hm;simp only[List.mem_cons,List.not_mem_nil,or_false]at hm;subst hm;exact t0.2
 split
 ·have:g.i0%2=0∨g.i0%2=1:=by omega
  rcases this with h|h<;>rw[h]<;>exact⟨by dsimp only;omega,by dsimp only;omega,by simp[a27],by simp[a23],by simp,by simp,⟨rfl,rfl⟩⟩
 ·exact⟨by dsimp only;omega,by dsimp only;omega,by simp[a27],by simp[a23],by simp[a],by simp,⟨rfl,rfl⟩⟩
theorem c63(bus:Bool):∀(l:List GX) (ks:List Nat) (i:Nat) (x:Nd),(gN bus ks l)[i]?=some x->∃g,x=a0k bus g (ks++((gN bus ks l).take i).map Nd.kind)
 | [],ks,i,x,h=>by simp[gN]at h
 |g::l,ks,0,x,h=>by simp only[gN,List.getElem?_cons_zero,Option.some.injEq]at h;exact⟨g,by rw[<-h];simp⟩
 |g::l,ks,i+1,x,h=>by simp only[gN,List.getElem?_cons_succ]at h;obtain⟨g',hg⟩:=c63 bus l _ i x h;exact⟨g',by rw[hg];simp[gN]⟩
theorem CX.dn_len(x:CX):x.dn.length=x.d:=by have:x.d<3:=Nat.mod_lt _ (by omega);unfold CX.dn;rw[List.length_map,List.length_take];simp;omega
theorem CX.nodes_len(x:CX):x.nodes.length=x.n:=by unfold CX.nodes CX.n;rw[List.length_append,List.length_append,List.length_replicate,x.dn_len,a2f]
theorem CX.dn_kind(x:CX):x.dn.map Nd.kind=List.replicate x.d 14:=by
 have:x.d=0∨x.d=1∨x.d=2:=by have:x.d<3:=Nat.mod_lt _ (by omega);omega
 unfold CX.dn;rcases this with h|h|h<;>rw[h]<;>rfl
theorem CX.base_len(x:CX):x.base.length=x.k+x.d:=by unfold CX.base;simp
theorem CX.kinds(x:CX):x.nodes.map Nd.kind=x.base++(gN x.bus x.base x.gs).map Nd.kind:=by unfold CX.nodes CX.base;rw[List.map_append,List.map_append,List.map_replicate,x.dn_kind];rfl
theorem CX.node_cases(x:CX){i:Nat}{nd:Nd}(h:x.nodes[i]?=some nd):nd=b0p∨(∃v,nd=a4n (v%x.n))∨GateOk ((x.nodes.map Nd.kind).take i) nd:=by
 unfold CX.nodes at h;by_cases h1:i<x.k
 ·rw[List.append_assoc,List.getElem?_append_left (by simpa using h1),List.getElem?_replicate,if_pos h1]at h;exact .inl (Option.some.inj h).symm
 rw[List.append_assoc,List.getElem?_append_right (by simpa using h1),List.length_replicate]at h;by_cases h2:i-x.k<x.d
 ·rw[List.getElem?_append_left (by rw[x.dn_len];exact h2)]at h;unfold CX.dn at h;rw[List.getElem?_map]at h;cases hv:([x.d0,x.d1].take x.d)[i-x.k]? with
  |none=>rw[hv]at h;cases h
  |some v=>rw[hv]at h;exact .inr (.inl ⟨v,(Option.some.inj h).symm⟩)
 ·rw[List.getElem?_append_right (by rw[x.dn_len];omega),x.dn_len]at h;obtain⟨g,hg⟩:=c63 _ _ _ _ _ h;refine .inr (.inr ?_);have e:(x.nodes.map Nd.kind).take i=x.base++((gN x.bus x.base x.gs).take (i-x.k-x.d)).map Nd.kind:=by
   rw[x.kinds,List.take_append,List.take_of_length_le (by rw[x.base_len];omega),x.base_len,List.map_take]
   congr 2;omega
  rw[e,hg];exact b5c _ _ _ (by
   rw[List.length_append,x.base_len];have:0<x.k:=by unfold CX.k;omega
   omega)
theorem CX.wf(x:CX):x.cir.wf:=by
 have hn:=x.nodes_len;have hk:x.k<=4∧0<x.k:=by unfold CX.k;omega
 have hd:x.d<3:=Nat.mod_lt _ (by omega);have hg:x.gs.length<=8:=by unfold CX.gs;rw[List.length_take];omega
 have bG:x.n=x.k+x.d+x.gs.length:=rfl;have key:∀nd∈x.nodes,∃i,x.nodes[i]?=some nd∧i<x.n:=by intro nd h;obtain⟨i,hi⟩:=List.mem_iff_getElem?.1 h;exact⟨i,hi,by rw[<-hn];exact(List.getElem?_eq_some_iff.1 hi).1⟩
 have hl:∀i,i<x.n->((x.nodes.map Nd.kind).take i).length=i:=λi hi=>by rw[List.length_take,List.length_map,hn];omega
 have ez:∀nd∈x.nodes,nd=b0p∨(∃v,nd=a4n (v%x.n))∨∃i,i<x.n∧GateOk ((x.nodes.map Nd.kind).take i) nd:=by
  intro nd h;obtain⟨i,hi,ai⟩:=key nd h;rcases x.node_cases hi with h|h|h
  ·exact .inl h
  ·exact .inr (.inl h)
  ·exact .inr (.inr ⟨i,ai,h⟩)
 refine⟨by show 0<x.nodes.length;omega,by show x.nodes.length<=14;omega,by show x.names=_;rw[show x.cir.nodes=x.nodes from rfl,hn];rfl,?_,?_,?_,?_,?_,?_,?_,?_,?_⟩
 ·intro nd h;rcases ez nd h with rfl|⟨v,rfl⟩|⟨i,hi,h⟩
  ·decide
  ·exact Nat.le_refl 14
  ·have:=h.k13;omega
 ·intro nd h;rcases ez nd h with rfl|⟨v,rfl⟩|⟨i,hi,h⟩
  ·decide
  ·exact Nat.le_refl 1
  ·exact h.lo
 ·intro nd h;rcases ez nd h with rfl|⟨v,rfl⟩|⟨i,hi,h⟩
  ·decide
  ·exact Nat.le_refl 1
  ·exact h.hi
 ·intro nd h m hm;show m<x.nodes.length;rw[hn];rcases ez nd h with rfl|⟨v,rfl⟩|⟨i,hi,h⟩
  ·simp[b0p]at hm
  ·simp only[a4n,List.mem_cons,List.not_mem_nil,or_false]at hm;subst hm;exact Nat.mod_lt _ (by omega)
  ·have:=h.ins m hm;rw[hl i hi]at this;omega
 ·intro nd h h13 m hm;rcases ez nd h with rfl|⟨v,rfl⟩|⟨i,hi,h⟩
  ·simp[b0p]at hm
  ·simp[a4n]at h13
  ·have h1:=h.bus h13 m hm;have h2:=h.ins m hm;rw[hl i hi]at h2;rw[List.getElem?_take,if_pos h2,List.getElem?_map]at h1;show a0u x.nodes m=12;unfold a0u;rw[h1];rfl
 ·intro nd h;rcases ez nd h with rfl|⟨v,rfl⟩|⟨i,hi,h⟩
  ·exact⟨rfl,rfl⟩
  ·exact⟨rfl,rfl⟩
  ·exact h.mem
 ·intro i nd h hc m hm;have ai:i<x.n:=by rw[<-hn];exact(List.getElem?_eq_some_iff.1 h).1
  rcases x.node_cases h with rfl|⟨v,rfl⟩|h
  ·simp[b0p]at hm
  ·simp[a4n,a1r]at hc
  ·have:=h.ins m hm;rw[hl i ai]at this;exact this
 ·intro o ho;show o<x.nodes.length;rw[hn];have ho:o∈x.outN:=ho;unfold CX.outN at ho;simp only[List.mem_append,List.mem_map,List.mem_cons,List.not_mem_nil,or_false]at ho;rcases ho with ⟨a,_,rfl⟩|rfl
  ·exact Nat.mod_lt _ (by omega)
  ·omega
 ·show x.outN.length<=4;unfold CX.outN;simp;omega
end Go.Pc
/- PcFan: which pins read a net. Plain. -/
namespace Go.Pc
open Go.Ax
def a4x(l:Nat×Nat):List AV:=[.int .i64 l.1,.int .i64 l.2]
def cnt(L:List (Nat×Nat))(a:Nat):Nat:=(L.map (·.1)).count a
structure FoOk(nodes:List Nd)(i k:Nat)(fo:List (List (Nat×Nat))):Prop where
 len:fo.length=nodes.length
 num:∀(j:Nat) (L:List (Nat×Nat)),fo[j]?=some L->∀a,cnt L a=if a<i then(a28 nodes a).count j else if a=i then((a28 nodes i).take k).count j else 0
theorem FoOk.zero(nodes:List Nd):FoOk nodes 0 0 (List.replicate nodes.length []):=by
 refine⟨by simp,λj L h a=>?_⟩;rw[List.getElem?_replicate]at h;split at h
 ·cases h;simp[Pc.cnt]
 ·cases h
theorem FoOk.step{nodes:List Nd}{i k m:Nat}{fo:List (List (Nat×Nat))}{L:List (Nat×Nat)}(h:FoOk nodes i k fo)(hm:(a28 nodes i)[k]?=some m)(hL:fo[m]?=some L):FoOk nodes i (k+1) (fo.set m (L++[(i,k)])):=by
 refine⟨by rw[List.length_set,h.len],λj L' hj a=>?_⟩;have ht:=a1b hm;rw[List.getElem?_set]at hj;have d5:m<fo.length:=(List.getElem?_eq_some_iff.1 hL).1;by_cases rG:m=j
 ·subst rG;simp only[if_true,d5,Option.some.injEq]at hj;subst hj;have:=h.num m L hL a;have e:Pc.cnt (L++[(i,k)]) a=Pc.cnt L a+if i=a then 1 else 0:=by
   unfold Pc.cnt;rw[List.map_append,List.count_append];by_cases lJ:i=a
   ·subst lJ;simp
   ·simp[lJ,List.count_cons]
  rw[e,this,ht];by_cases h1:a<i
  ·simp[h1];omega
  ·by_cases h2:a=i
   ·subst h2;simp
   ·simp[h1,h2];omega
 ·rw[if_neg rG]at hj;have:=h.num j L' hj a;rw[this,ht];by_cases h1:a<i
  ·simp[h1]
  ·by_cases h2:a=i
   ·subst h2;simp[List.count_append,List.count_cons,rG]
   ·simp[h1,h2]
theorem FoOk.next{nodes:List Nd}{i k:Nat}{fo:List (List (Nat×Nat))}(h:FoOk nodes i k fo)(hk:k=(a28 nodes i).length):FoOk nodes (i+1) 0 fo:=by
 refine⟨h.len,λj L hj a=>?_⟩;rw[h.num j L hj a];subst hk;rw[List.take_length];by_cases h1:a<i
 ·simp[h1,show a<i+1 by omega]
 ·by_cases h2:a=i
  ·subst h2;simp
  ·simp[h1,h2,show ¬a<i+1 by omega]
theorem a1s{nodes:List Nd}{i:Nat}{x:Nd}(h:nodes[i]?=some x):a28 nodes i=x.ins:=by simp[a28,h]
theorem c43(n:Nat):∀(L:List (Nat×Nat)),(∀l∈L,l.1<n)->L.length=((List.range n).map λa=>cnt L a).sum
 | [],_=>by
  have:∀l:List Nat,(l.map λa=>cnt [] a).sum=0:=by intro l;induction l with|nil=>rfl|cons a l ih=>rw[List.map_cons,List.sum_cons,ih];rfl
  rw[this];rfl
 |x::L,h=>by
  have ih:=c43 n L (λl hl=>h l (by simp[hl]));have hx:=h x (by simp);have e:∀a,cnt (x::L) a=cnt L a+if x.1=a then 1 else 0:=λa=>by unfold cnt;rw[List.map_cons,List.count_cons];simp[beq_iff_eq]
  have s:∀(l:List Nat),l.Nodup->(l.map λa=>cnt (x::L) a).sum=(l.map λa=>cnt L a).sum+if x.1∈l then 1 else 0:=by
   intro l
   induction l with
   |nil=>intro _;rfl
   |cons a l ih2=>
    intro hn;rw[List.nodup_cons]at hn;simp only[List.map_cons,List.sum_cons,e a,ih2 hn.2,List.mem_cons];by_cases h1:x.1=a
    ·subst h1;simp[hn.1];omega
    ·simp[h1];omega
  rw[s _ List.nodup_range,if_pos (by simpa using hx),List.length_cons,ih]
theorem FoOk.node{nodes:List Nd}{i k j:Nat}{fo:List (List (Nat×Nat))}{L:List (Nat×Nat)}(h:FoOk nodes i k fo)(hL:fo[j]?=some L)(hi:i<=nodes.length):∀l∈L,l.1<nodes.length:=by
 intro l hl;have hc:=h.num j L hL l.1;have hp:0<cnt L l.1:=by unfold cnt;exact List.count_pos_iff.2 (List.mem_map.2 ⟨l,hl,rfl⟩)
 by_cases h1:l.1<i
 ·omega
 ·rw[if_neg h1]at hc;by_cases h2:l.1=i
  ·rw[if_pos h2]at hc;cases hx:nodes[i]? with
   |none=>simp[a28,hx]at hc;omega
   |some x=>have:=(List.getElem?_eq_some_iff.1 hx).1;omega
  ·rw[if_neg h2]at hc;omega
theorem FoOk.total{nodes:List Nd}{i k j:Nat}{fo:List (List (Nat×Nat))}{L:List (Nat×Nat)}(h:FoOk nodes i k fo)(hL:fo[j]?=some L)(hn:nodes.length<=14)(hx:∀y∈nodes,y.ins.length<=16)(hi:i<=nodes.length:=by omega):L.length<=224:=by
 have hb:∀a,cnt L a<=16:=by
  intro a;have kq:(a28 nodes a).length<=16:=by
   unfold a28;cases fY:nodes[a]? with
   |none=>simp
   |some x=>exact hx x (List.mem_of_getElem? fY)
  rw[h.num j L hL a];split
  ·exact Nat.le_trans List.count_le_length kq
  split
  ·rename_i e;subst e;refine Nat.le_trans List.count_le_length ?_;rw[List.length_take];omega
  ·omega
 rw[c43 nodes.length L (h.node hL hi)];have s:∀l:List Nat,(l.map λa=>cnt L a).sum<=16*l.length:=by
  intro l
  induction l with
  |nil=>simp
  |cons a l ih=>have:=hb a;simp only[List.map_cons,List.sum_cons,List.length_cons];omega
 have:=s (List.range nodes.length);rw[List.length_range]at this;omega
theorem Cir.wf.insl{c:Cir}(h:c.wf){x:Nd}(hx:x∈c.nodes):x.ins.length<=16:=by
 have k14:=h.kind x hx;have my:=h.hi x hx;have:a23 x.kind<=16:=by
  have hk:x.kind=0∨x.kind=1∨x.kind=2∨x.kind=3∨x.kind=4∨x.kind=5∨x.kind=6∨x.kind=7∨x.kind=8∨x.kind=9∨x.kind=10∨x.kind=11∨x.kind=12∨x.kind=13∨x.kind=14:=by omega
  rcases hk with e|e|e|e|e|e|e|e|e|e|e|e|e|e|e<;>rw[e]<;>decide
 omega
end Go.Pc
/- PcKahn: the order in which nodes become ready. Plain. -/
namespace Go.Pc
open Go.Ax
def b7c(nodes:List Nd)(ready:List Nat)(done a:Nat):Nat:=((a28 nodes a).filter λm=>decide (m∉ready.take done)).length
structure Kahn(nodes:List Nd)(left ready:List Nat)(done:Nat)(L:List (Nat×Nat)):Prop where
 ll:left.length=nodes.length
 rn:∀r∈ready,r<nodes.length
 nd:ready.Nodup
 dle:done<=ready.length
 eq:∀a,a<nodes.length->a1r (a0u nodes a)=true->left.getD a 0+cnt L a=b7c nodes ready done a
 nc:∀a,a<nodes.length->a1r (a0u nodes a)=false->left.getD a 0=0
 zero:∀a,a<nodes.length->(a∈ready↔left.getD a 0=0)
def a9m(nodes:List Nd)(a:Nat):Nat:=if a1r (a0u nodes a)then(a28 nodes a).length else 0
def a2e(nodes:List Nd)(i:Nat):List Nat:=(List.range nodes.length).map λj=>if j<i then a9m nodes j else 0
def a2k(nodes:List Nd)(i:Nat):List Nat:=(List.range i).filter λj=>decide (a9m nodes j=0)
theorem b2k(nodes:List Nd)(i:Nat):a2k nodes (i+1)=if a9m nodes i=0 then a2k nodes i++[i]else a2k nodes i:=by unfold a2k;rw[List.range_succ,List.filter_append];by_cases h:a9m nodes i=0<;>simp[h]
theorem b73(nodes:List Nd)(i:Nat):(a2k nodes i).length<=i:=Nat.le_trans (List.length_filter_le _ _) (by simp)
theorem b51(nodes:List Nd):a2e nodes 0=List.replicate nodes.length 0:=by
 apply List.ext_getElem?;intro j;simp only[a2e,List.getElem?_map,List.getElem?_replicate,Nat.not_lt_zero,if_false];by_cases h:j<nodes.length
 ·rw[List.getElem?_range h];simp[h]
 ·rw[List.getElem?_eq_none (by simpa using h)];simp[h]
theorem a4i{nodes:List Nd}{i j:Nat}(h:j<nodes.length):(a2e nodes i)[j]?=some (if j<i then a9m nodes j else 0):=by simp[a2e,List.getElem?_range h]
theorem b0c{nodes:List Nd}{i:Nat}(h:i<nodes.length):(a2e nodes i).set i (a9m nodes i)=a2e nodes (i+1):=by
 apply List.ext_getElem?;intro j;rw[List.getElem?_set];by_cases hj:j<nodes.length
 ·rw[a4i hj,a4i hj];by_cases bq:i=j
  ·subst bq;simp[a2e,h]
  ·by_cases h2:j<i
   ·simp[bq,h2,show j<i+1 by omega]
   ·simp[bq,h2,show ¬j<i+1 by omega]
 ·have e:∀i,(a2e nodes i)[j]?=none:=λi=>List.getElem?_eq_none (by simp[a2e];omega);rw[e,e];have:i≠j:=by omega
  simp[this]
theorem b52{nodes:List Nd}{i:Nat}(h:i<nodes.length)(h0:a9m nodes i=0):a2e nodes i=a2e nodes (i+1):=by
 rw[<-b0c h];apply List.ext_getElem?;intro j;rw[List.getElem?_set];by_cases bq:i=j
 ·subst bq;rw[a4i h];simp[a2e,h,h0]
 ·simp[bq]
theorem Kahn.start(nodes:List Nd):Kahn nodes (a2e nodes nodes.length) (a2k nodes nodes.length) 0 []:=by
 have hg:∀a,a<nodes.length->(a2e nodes nodes.length).getD a 0=a9m nodes a:=by intro a ha;rw[List.getD,a4i ha];simp[ha]
 refine⟨by simp[a2e],?_,?_,Nat.zero_le _,?_,?_,?_⟩
 ·intro r hr;unfold a2k at hr;rw[List.mem_filter]at hr;simpa using hr.1
 ·exact List.nodup_range.filter _
 ·intro a ha hc;rw[hg a ha];have e:∀l:List Nat,(l.filter λm=>decide (m∉([]:List Nat)))=l:=λl=>List.filter_eq_self.2 (λm _=>by simp);simp only[a9m,hc,if_true,b7c,cnt,List.map_nil,List.count_nil,List.take_zero,Nat.add_zero];exact(congrArg List.length (e _)).symm
 ·intro a ha hc;rw[hg a ha];simp[a9m,hc]
 ·intro a ha;rw[hg a ha];unfold a2k;rw[List.mem_filter];simp[ha]
section
variable {nodes:List Nd}{left ready:List Nat}{done:Nat}{L:List (Nat×Nat)}
theorem b9z(L:List (Nat×Nat))(a p b:Nat):cnt (L++[(a,p)]) b=cnt L b+if a=b then 1 else 0:=by
 unfold cnt;rw[List.map_append,List.count_append];by_cases lJ:a=b
 ·subst lJ;simp
 ·simp[lJ,List.count_cons]
theorem Kahn.skip(h:Kahn nodes left ready done L){a p:Nat}(hc:a1r (a0u nodes a)=false):Kahn nodes left ready done (L++[(a,p)]):=by
 refine⟨h.ll,h.rn,h.nd,h.dle,?_,h.nc,h.zero⟩;intro b hb bZ;have:a≠b:=λe=>by subst e;rw[hc]at bZ;cases bZ
 rw[b9z,if_neg this,Nat.add_zero];exact h.eq b hb bZ
theorem d67{ready:List Nat}{done x a:Nat}(h:done<=ready.length):b7c nodes (ready++[x]) done a=b7c nodes ready done a:=by unfold b7c;rw[List.take_append_of_le_length h]
theorem Kahn.pos(h:Kahn nodes left ready done L){a p:Nat}(ha:a<nodes.length)(hc:a1r (a0u nodes a)=true)(iS:cnt (L++[(a,p)]) a<=b7c nodes ready done a):0<left.getD a 0:=by have:=h.eq a ha hc;rw[b9z,if_pos rfl]at iS;omega
theorem Kahn.dec(h:Kahn nodes left ready done L){a p:Nat}(ha:a<nodes.length)(hc:a1r (a0u nodes a)=true)(iS:cnt (L++[(a,p)]) a<=b7c nodes ready done a) :
 Kahn nodes (left.set a (left.getD a 0-1)) (if left.getD a 0-1=0 then ready++[a]else ready) done (L++[(a,p)]):=by
 have iI:=h.pos ha hc iS;have io:a<left.length:=by rw[h.ll];exact ha
 have aM:∀b,(left.set a (left.getD a 0-1)).getD b 0=if a=b then left.getD a 0-1 else left.getD b 0:=by
  intro b;simp only[List.getD_eq_getElem?_getD,List.getElem?_set];by_cases cP:a=b
  ·subst cP;simp[io]
  ·simp[cP]
 have gQ:a∉ready:=λhm=>by have:=(h.zero a ha).1 hm;omega
 have fi:∀b,b7c nodes (if left.getD a 0-1=0 then ready++[a]else ready) done b=b7c nodes ready done b:=by
  intro b;split
  ·exact d67 h.dle
  ·rfl
 refine⟨by rw[List.length_set,h.ll],?_,?_,?_,?_,?_,?_⟩
 ·intro r hr;split at hr
  ·simp only[List.mem_append,List.mem_singleton]at hr;rcases hr with hr|rfl
   ·exact h.rn r hr
   ·exact ha
  ·exact h.rn r hr
 ·split
  ·rw[List.nodup_append];refine⟨h.nd,by simp,?_⟩;intro x hx y hy;simp only[List.mem_singleton]at hy;subst hy;exact λe=>gQ (e▸hx)
  ·exact h.nd
 ·split
  ·have:=h.dle;simp;omega
  ·exact h.dle
 ·intro b hb bZ;rw[aM,fi,b9z];have:=h.eq b hb bZ;by_cases cP:a=b
  ·subst cP;rw[if_pos rfl,if_pos rfl];omega
  ·rw[if_neg cP,if_neg cP,Nat.add_zero];exact this
 ·intro b hb bZ;have:a≠b:=λe=>by subst e;rw[hc]at bZ;cases bZ
  rw[aM,if_neg this];exact h.nc b hb bZ
 ·intro b hb;rw[aM];by_cases cP:a=b
  ·subst cP;rw[if_pos rfl];split
   ·rename_i e;exact⟨λ_=>e,λ_=>by simp⟩
   ·rename_i e;exact⟨λhm=>absurd hm gQ,λe'=>absurd e' e⟩
  ·rw[if_neg cP];rw[<-h.zero b hb];split
   ·simp[Ne.symm cP]
   ·rfl
theorem a6w(l:List Nat)(S:List Nat)(x:Nat)(hx:x∉S):(l.filter λm=>decide (m∉S)).length=(l.filter λm=>decide (m∉S++[x])).length+l.count x:=by
 induction l with
 |nil=>rfl
 |cons a l ih=>
  simp only[List.filter_cons,List.count_cons];by_cases pX:a=x
  ·subst pX;simp[hx]at ih⊢;omega
  ·by_cases tT:a∈S
   ·simp[tT,pX]at ih⊢;omega
   ·simp[tT,pX]at ih⊢;omega
theorem Kahn.next(h:Kahn nodes left ready done L){x:Nat}(hx:ready[done]?=some x)(hL:∀a,a<nodes.length->cnt L a=(a28 nodes a).count x):Kahn nodes left ready (done+1) []:=by
 have jK:=(List.getElem?_eq_some_iff.1 hx).1;have ht:=a1b hx;have il:x∉ready.take done:=by
  intro hm;obtain⟨i,hi⟩:=List.mem_iff_getElem?.1 hm;rw[List.getElem?_take]at hi;split at hi
  case isFalse=>cases hi
  have:=(List.getElem?_inj (by omega) h.nd).1 (hi.trans hx.symm);omega
 refine⟨h.ll,h.rn,h.nd,by omega,?_,h.nc,h.zero⟩;intro a ha hc;have:=h.eq a ha hc;rw[hL a ha]at this;unfold b7c at this⊢;rw[ht];rw[a6w _ _ x il]at this;simp only[cnt,List.map_nil,List.count_nil];omega
theorem d18{ready:List Nat}{done x a:Nat}(nd:ready.Nodup)(hx:ready[done]?=some x):(a28 nodes a).count x<=b7c nodes ready done a:=by
 have jK:=(List.getElem?_eq_some_iff.1 hx).1;have il:x∉ready.take done:=by
  intro hm;obtain⟨i,hi⟩:=List.mem_iff_getElem?.1 hm;rw[List.getElem?_take]at hi;split at hi
  case isFalse=>cases hi
  have:=(List.getElem?_inj (by omega) nd).1 (hi.trans hx.symm);omega
 unfold b7c;rw[a6w _ _ x il];omega
theorem Kahn.all(h:Kahn nodes left ready ready.length [])(sC:∀(i:Nat) (x:Nd),nodes[i]?=some x->a1r x.kind=true->∀m∈x.ins,m<i):nodes.length<=ready.length:=by
 have key:∀n a,a<=n->a<nodes.length->a∈ready:=by
  intro n
  induction n with
  |zero=>
   intro a fK ha;obtain rfl:a=0:=by omega
   rw[h.zero 0 ha];cases hc:a1r (a0u nodes 0)with
   |false=>exact h.nc 0 ha hc
   |true=>
    obtain⟨x,hx⟩:∃x,nodes[0]?=some x:=⟨_,List.getElem?_eq_getElem ha⟩
    have he:=h.eq 0 ha hc;have hk:a0u nodes 0=x.kind:=by simp[a0u,hx]
    rw[hk]at hc;have hi:a28 nodes 0=[]:=by
     simp only[a28,hx,Option.map_some,Option.getD_some];cases kq:x.ins with
     |nil=>rfl
     |cons m r=>have:=sC 0 x hx hc m (by simp[kq]);omega
    have:b7c nodes ready ready.length 0=0:=by simp[b7c,hi]
    omega
  |succ n ih=>
   intro a fK ha;rw[h.zero a ha];cases hc:a1r (a0u nodes a)with
   |false=>exact h.nc a ha hc
   |true=>
    obtain⟨x,hx⟩:∃x,nodes[a]?=some x:=⟨_,List.getElem?_eq_getElem ha⟩
    have he:=h.eq a ha hc;have hk:a0u nodes a=x.kind:=by simp[a0u,hx]
    rw[hk]at hc;have hi:a28 nodes a=x.ins:=a1s hx;have:b7c nodes ready ready.length a=0:=by unfold b7c;rw[hi,List.take_length,List.length_eq_zero_iff,List.filter_eq_nil_iff];intro m hm;have h1:=sC a x hx hc m hm;have h2:=ih m (by omega) (by omega);simp[h2]
    omega
 have:=b50 (l:=List.range nodes.length) (T:=ready) List.nodup_range (λa ha=>key a a (Nat.le_refl _) (by simpa using ha));simpa using this
theorem Kahn.bound(h:Kahn nodes left ready done L):ready.length<=nodes.length:=by have:=b50 h.nd (T:=List.range nodes.length) (λa ha=>by simpa using h.rn a ha);simpa using this
end
end Go.Pc
/- PcPerm: exchanging neighbours. Plain. -/
namespace Go.Pc
theorem d06{l:List Nat}{j x y:Nat}(hj:l[j+1]?=some x)(hi:l[j]?=some y):((l.set (j+1) y).set j x).Perm l:=by
 induction l generalizing j with
 |nil=>simp at hj
 |cons a l ih=>
  cases j with
  |zero=>
   cases l with
   |nil=>simp at hj
   |cons b l=>simp only[List.getElem?_cons_succ,List.getElem?_cons_zero,Option.some.injEq]at hj hi;subst hj;subst hi;exact List.Perm.swap ..
  |succ j=>simp only[List.getElem?_cons_succ]at hj hi;simp only[List.set_cons_succ];exact(ih hj hi).cons a
def d9m(a b:Nat):Int:=if a<b then -1 else if b<a then 1 else 0
end Go.Pc
/- PcReach: which nets a net depends on; faults that are valid. Plain. -/
namespace Go.Pc
open Go.Ax
inductive DepOn(nodes:List Nd):Nat->Nat->Prop
 |refl (a:Nat):DepOn nodes a a
 |step {a m b:Nat} (hk:a0u nodes a≠14) (hm:m∈a28 nodes a) (h:DepOn nodes m b):DepOn nodes a b
theorem DepOn.snoc{nodes:List Nd}{a b m:Nat}(h:DepOn nodes a b)(hk:a0u nodes b≠14)(hm:m∈a28 nodes b):DepOn nodes a m:=by
 induction h with
 |refl a=>exact .step hk hm (.refl _)
 |step fC bl _ ih=>exact .step fC bl (ih hk hm)
structure FltOk(nodes:List Nd)(f:Flt):Prop where
 model:f.model=0∨f.model=2∨f.model=3
 node:f.node<nodes.length
 pin:-1<=f.pin∧f.pin<(a28 nodes f.node).length
 value:f.value<=1
 other:f.other<nodes.length
 stuck:f.model=0->f.other=0
 bridge:f.model≠0->f.pin = -1∧f.node≠f.other∧(f.model=2->f.node<=f.other)∧(f.model=3->f.value=0)∧a0u nodes f.node≠12∧a0u nodes f.other≠12∧¬DepOn nodes f.node f.other∧¬DepOn nodes f.other f.node
end Go.Pc
/- PcRun: the simulation, step by step. Plain. -/
namespace Go.Pc
open Go.Ax
section
variable {α:Type}{A:Alg α}{nodes:List Nd}{h:Hk α}
theorem d16{n:Nat}{ag:List α}:∀{l:List Nat} {p i m:Nat},l[i]?=some m->(a5t A h n ag p l)[i]?=some (h.pin n (p+i) (ag.getD m A.z))
 | [],p,i,m,hm=>by simp at hm
 |a::l,p,0,m,hm=>by simp at hm;subst hm;rfl
 |a::l,p,i+1,m,hm=>by simp only[List.getElem?_cons_succ]at hm;simp only[a5t,List.getElem?_cons_succ,d16 (p:=p+1) hm];rw[show p+1+i=p+(i+1) by omega]
theorem d15{n:Nat}{ag:List α}:∀(l:List Nat) (p:Nat),(a5t A h n ag p l).length=l.length
 | [],_=>rfl
 |a::l,p=>by simp[a5t,d15 l]
theorem a9i{ag:List α}{n:Nat}:(a1o A nodes h ag n).length=(a28 nodes n).length:=d15 _ _
theorem b74{ag:List α}{n i m:Nat}{v:α}(hm:(a28 nodes n)[i]?=some m)(hv:ag[m]?=some v):(a1o A nodes h ag n).take (i+1)=(a1o A nodes h ag n).take i++[h.pin n i v]:=by have:=d16 (A:=A) (h:=h) (n:=n) (ag:=ag) (p:=0) hm;rw[Nat.zero_add,List.getD,hv]at this;exact a1b this
theorem b7i:∀{is:List Nat} {vs:List α} {ag:List α} {a:Nat} {v:α},is.length=vs.length->a25 ag (is++[a]) (vs++[v])=(a25 ag is vs).set a v
 | [],[],ag,a,v,_=>rfl
 | [],_::_,_,_,_,h=>by simp at h
 |_::_,[],_,_,_,h=>by simp at h
 |i::is,w::vs,ag,a,v,h=>by simp only[List.cons_append,a25];exact b7i (by simpa using h)
theorem a4w:∀(is:List Nat) (vs:List α) (ag:List α),(a25 ag is vs).length=ag.length
 | [],vs,ag=>by cases vs<;>rfl
 |i::is,[],ag=>rfl
 |i::is,v::vs,ag=>by simp[a25,a4w is vs]
theorem a9n{is:List Nat}{vs ag:List α}{i a:Nat}{v:α}(h1:is[i]?=some a)(h2:vs[i]?=some v):a25 ag (is.take (i+1)) (vs.take (i+1))=(a25 ag (is.take i) (vs.take i)).set a v:=by rw[a1b h1,a1b h2];have l1:=(List.getElem?_eq_some_iff.1 h1).1;have l2:=(List.getElem?_eq_some_iff.1 h2).1;exact b7i (by rw[List.length_take,List.length_take];omega)
theorem d0f(ag:List α)(n:Nat):(stepG A nodes h ag n).length=ag.length:=by unfold stepG;simp
theorem b9q(l:List Nat)(ag:List α):(l.foldl (stepG A nodes h) ag).length=ag.length:=by
 induction l generalizing ag with
 |nil=>rfl
 |cons a l ih=>rw[List.foldl_cons,ih,d0f]
theorem c1g(ord ins sts:List Nat)(vi vs:List α):(c84 A nodes h ord ins sts vi vs).length=nodes.length:=by unfold c84;rw[b9q,a4w,a4w];simp
theorem c27{l:List Nat}{ag:List α}{i n:Nat}(hn:l[i]?=some n):(l.take (i+1)).foldl (stepG A nodes h) ag=stepG A nodes h ((l.take i).foldl (stepG A nodes h) ag) n:=by rw[a1b hn,List.foldl_append];rfl
end
end Go.Pc
/- PcLev: levels of nodes; orders in which a4m node stands behind what it d64. Plain. -/
namespace Go.Pc
open Go.Ax
structure Lev(nodes:List Nd)(lv ready:List Nat)(done:Nat)(L:List (Nat×Nat)):Prop where
 old:∀a,a<nodes.length->a1r (a0u nodes a)=true->∀m∈a28 nodes a,m∈ready.take done->lv.getD m 0<lv.getD a 0
 now:∀l∈L,a1r (a0u nodes l.1)=true->∀x,ready[done]?=some x->lv.getD x 0<lv.getD l.1 0
theorem Lev.start(nodes:List Nd)(lv ready:List Nat):Lev nodes lv ready 0 []:=⟨λa _ _ m _ hm=>by simp at hm,λl hl=>by simp at hl⟩
section
variable {nodes:List Nd}{lv left ready:List Nat}{done:Nat}{L:List (Nat×Nat)}
theorem Lev.skip(h:Lev nodes lv ready done L){a p:Nat}(hc:a1r (a0u nodes a)=false):Lev nodes lv ready done (L++[(a,p)]):=by
 refine⟨h.old,λl hl cM=>?_⟩;rcases List.mem_append.1 hl with hl|hl
 ·exact h.now l hl cM
 ·rw[List.mem_singleton.1 hl]at cM;rw[hc]at cM;cases cM
theorem b3j(lv:List Nat)(a v b:Nat)(ha:a<lv.length):(lv.set a v).getD b 0=if a=b then v else lv.getD b 0:=by
 simp only[List.getD_eq_getElem?_getD,List.getElem?_set];by_cases cP:a=b
 ·subst cP;simp[ha]
 ·simp[cP]
theorem Lev.dec(h:Lev nodes lv ready done L){a p x va vx:Nat}(hx:ready[done]?=some x)(gQ:a∉ready)(gv:lv[a]?=some va)(ij:lv[x]?=some vx){e8:List Nat}(hr:e8=ready∨e8=ready++[a]) :
 Lev nodes (lv.set a (max va (vx+1))) e8 done (L++[(a,p)]):=by
 have io:=(List.getElem?_eq_some_iff.1 gv).1;have jK:=(List.getElem?_eq_some_iff.1 hx).1;have ut:x∈ready:=List.mem_of_getElem? hx;have pX:a≠x:=λe=>gQ (e▸ut);have ea:lv.getD a 0=va:=by rw[List.getD,gv];rfl
 have ex:lv.getD x 0=vx:=by rw[List.getD,ij];rfl
 have ht:e8.take done=ready.take done:=by
  rcases hr with rfl|rfl
  ·rfl
  ·exact List.take_append_of_le_length (by omega)
 have fY:e8[done]?=some x:=by
  rcases hr with rfl|rfl
  ·exact hx
  ·rw[List.getElem?_append_left jK];exact hx
 have up:∀b,lv.getD b 0<=(lv.set a (max va (vx+1))).getD b 0:=by
  intro b;rw[b3j _ _ _ _ io];split
  ·rename_i e;subst e;rw[ea];exact Nat.le_max_left _ _
  ·exact Nat.le_refl _
 refine⟨?_,?_⟩
 ·intro b hb bZ m hm dl;rw[ht]at dl;have uM:a≠m:=λe=>gQ (e▸List.mem_of_mem_take dl);rw[b3j _ _ _ m io,if_neg uM];exact Nat.lt_of_lt_of_le (h.old b hb bZ m hm dl) (up b)
 ·intro l hl cM y hy;rw[fY]at hy;cases hy;rw[b3j _ _ _ x io,if_neg pX];rcases List.mem_append.1 hl with hl|hl
  ·exact Nat.lt_of_lt_of_le (h.now l hl cM x hx) (up _)
  ·rw[List.mem_singleton.1 hl,b3j _ _ _ _ io,if_pos rfl,ex];exact Nat.lt_of_lt_of_le (Nat.lt_succ_self _) (Nat.le_max_right _ _)
theorem Lev.next(h:Lev nodes lv ready done L){x:Nat}(hx:ready[done]?=some x)(hL:∀a,a<nodes.length->cnt L a=(a28 nodes a).count x):Lev nodes lv ready (done+1) []:=by
 refine⟨?_,λl hl=>by simp at hl⟩;intro a ha hc m hm dl;rw[a1b hx]at dl;rcases List.mem_append.1 dl with dl|dl
 ·exact h.old a ha hc m hm dl
 ·rw[List.mem_singleton.1 dl]at hm⊢;have h1:=hL a ha;have h2:0<(a28 nodes a).count x:=List.count_pos_iff.2 hm;rw[<-h1]at h2;unfold Pc.cnt at h2;obtain⟨l,hl,rfl⟩:=List.mem_map.1 (List.count_pos_iff.1 h2);exact h.now l hl hc x hx
def Rises(nodes:List Nd)(lv:List Nat):Prop:=∀a,a<nodes.length->a1r (a0u nodes a)=true->∀m∈a28 nodes a,m<nodes.length->lv.getD m 0<lv.getD a 0
theorem Lev.all(h:Lev nodes lv ready ready.length [])(hk:Kahn nodes left ready ready.length [])(aW:nodes.length<=ready.length):Rises nodes lv:=by
 intro a ha hc m hm bW;refine h.old a ha hc m hm ?_;rw[List.take_length];by_cases dl:m∈ready
 ·exact dl
 ·have hs:=b50 (l:=m::ready) (T:=List.range nodes.length) (List.nodup_cons.2 ⟨dl,hk.nd⟩) (λb hb=>by
   rcases List.mem_cons.1 hb with rfl|hb
   ·simpa using bW
   ·simpa using hk.rn b hb)
  simp at hs;omega
end
def e80(nodes:List Nd)(ord:List Nat):Prop:=∀(i n:Nat),ord[i]?=some n->a1r (a0u nodes n)=true->∀m∈a28 nodes n,m∈ord.take i
theorem Rises.topo{nodes:List Nd}{lv ord:List Nat}(h:Rises nodes lv)(hp:ord.Perm (List.range nodes.length))(hs:ord.Pairwise λx y=>lv.getD x 0<=lv.getD y 0)(bw:∀n,n<nodes.length->∀m∈a28 nodes n,m<nodes.length):e80 nodes ord:=by
 intro i n hi hc m hm;have hn:n<nodes.length:=by have:=hp.mem_iff.1 (List.mem_of_getElem? hi);simpa using this
 have bW:=bw n hn m hm;obtain⟨j,hj⟩:=List.mem_iff_getElem?.1 (hp.mem_iff.2 (List.mem_range.2 bW));have ai:=h n hn hc m hm bW;have bQ:=(List.getElem?_eq_some_iff.1 hi).1;have bg:=(List.getElem?_eq_some_iff.1 hj).1;by_cases jb:j<i
 ·exact List.mem_iff_getElem?.2 ⟨j,by rw[List.getElem?_take,if_pos jb];exact hj⟩
 ·exfalso;by_cases bq:i=j
  ·subst bq;rw[hi]at hj;cases hj;omega
  ·have:=List.pairwise_iff_getElem.1 hs i j bQ bg (by omega);rw[(List.getElem?_eq_some_iff.1 hi).2,(List.getElem?_eq_some_iff.1 hj).2]at this;omega
theorem Cir.wf.inAt{c:Cir}(h:c.wf):∀n,n<c.nodes.length->∀m∈a28 c.nodes n,m<c.nodes.length:=by
 intro n hn m hm;obtain⟨x,hx⟩:∃x,c.nodes[n]?=some x:=⟨_,List.getElem?_eq_getElem hn⟩
 rw[a1s hx]at hm;exact h.ins x (List.mem_of_getElem? hx) m hm
/-! ### insertion -/
def SortJ(key:Nat->Nat)(d:List Nat)(i j:Nat):Prop:=∀p q x y,p<q->q<=i->q≠j->d[p]?=some x->d[q]?=some y->key x<=key y
def SortI(key:Nat->Nat)(d:List Nat)(i:Nat):Prop:=∀p q x y,p<q->q<i->d[p]?=some x->d[q]?=some y->key x<=key y
theorem SortI.start{key:Nat->Nat}{d:List Nat}{i:Nat}(h:SortI key d i):SortJ key d i i:=λp q x y h1 h2 h3=>h p q x y h1 (by omega)
theorem SortI.one{key:Nat->Nat}{d:List Nat}:SortI key d 1:=λp q x y h1 h2=>by omega
theorem SortJ.stop{key:Nat->Nat}{d:List Nat}{i j:Nat}(h:SortJ key d i j)(hj:j=0∨∃x y,d[j-1]?=some x∧d[j]?=some y∧key x<=key y):SortI key d (i+1):=by
 intro p q x y h1 h2 hx hy;by_cases hq:q=j
 ·subst hq;rcases hj with rfl|⟨x',y',h3,h4,h5⟩
  ·omega
  ·rw[hy]at h4;cases h4;by_cases hp:p=q-1
   ·subst hp;rw[hx]at h3;cases h3;exact h5
   ·exact Nat.le_trans (h p (q-1) x x' (by omega) (by omega) (by omega) hx h3) h5
 ·exact h p q x y h1 (by omega) hq hx hy
theorem SortJ.swap{key:Nat->Nat}{d:List Nat}{i j:Nat}(h:SortJ key d i (j+1))(jb:j+1<=i){x y:Nat}(hx:d[j]?=some x)(hy:d[j+1]?=some y)(ai:key y<key x):SortJ key ((d.set (j+1) x).set j y) i j:=by
 have bg:=(List.getElem?_eq_some_iff.1 hy).1;have hg:∀p,((d.set (j+1) x).set j y)[p]?=if p=j then some y else if p=j+1 then some x else d[p]?:=by
  intro p;rw[List.getElem?_set,List.getElem?_set];simp only[List.length_set];by_cases h1:j=p
  ·subst h1;simp;omega
  ·by_cases h2:j+1=p
   ·subst h2;simp;omega
   ·simp[h1,h2,Ne.symm h1,Ne.symm h2]
 intro p q u v h1 h2 h3 hu hv;rw[hg]at hu hv;rw[if_neg h3]at hv;by_cases hq:q=j+1
 ·rw[if_pos hq]at hv;cases hv;by_cases hp:p=j
  ·rw[if_pos hp]at hu;cases hu;omega
  ·rw[if_neg hp,if_neg (by omega)]at hu;exact h p j u x (by omega) (by omega) (by omega) hu hx
 ·rw[if_neg hq]at hv;by_cases hp:p=j
  ·rw[if_pos hp]at hu;cases hu;exact h (j+1) q y v (by omega) h2 (by omega) hy hv
  ·rw[if_neg hp]at hu;by_cases cB:p=j+1
   ·rw[if_pos cB]at hu;cases hu;exact h j q x v (by omega) h2 (by omega) hx hv
   ·rw[if_neg cB]at hu;exact h p q u v h1 h2 (by omega) hu hv
theorem SortI.pairwise{key:Nat->Nat}{d:List Nat}(h:SortI key d d.length):d.Pairwise λx y=>key x<=key y:=by rw[List.pairwise_iff_getElem];intro i j hi hj bq;exact h i j _ _ bq hj (List.getElem?_eq_getElem hi) (List.getElem?_eq_getElem hj)
end Go.Pc
/- PcLog: gates over the values 0, 1, X and Z; they are the gates over pairs of bits. Plain. -/
namespace Go.Pc
open Go.Ax
def a5u(v:Nat):Nat:=min v 2
def b3e(v:Nat):Nat:=if v<=1 then 1-v else 2
def a71(low cq:Nat):Nat->List Nat->Nat
 |out,[]=>out
 |out,v::r=>if v=low then low else a71 low cq (if v=cq then out else 2) r
def b6p:Nat->List Nat->Nat
 |out,[]=>out
 |out,v::r=>if v<=1 then b6p (out^^^v) r else 2
def c1j(s a b:Nat):Nat:=if s=0 then a5u a else if s=1 then a5u b else if a=b then a5u a else 2
def c3z(e d:Nat):Nat:=if e=0 then 3 else if e=1 then a5u d else 2
def d9d(l:List Nat):Nat:=match l.findIdx? (λv=>decide (v≠3))with
 |none=>3
 |some i=>if(decide (0∈l)&&decide (1∈l))||l.any (λv=>decide (a51 v=2))then 2 else l.getD i 0
def a4u(k:Nat)(l:List Nat):Nat:=match k with
 |1=>0
 |2=>1
 |3=>a5u (l.getD 0 2)
 |4=>b3e (l.getD 0 2)
 |5=>a71 0 1 1 l
 |6=>b3e (a71 0 1 1 l)
 |7=>a71 1 0 0 l
 |8=>b3e (a71 1 0 0 l)
 |9=>b6p 0 l
 |10=>b3e (b6p 0 l)
 |11=>c1j (l.getD 0 2) (l.getD 1 2) (l.getD 2 2)
 |12=>c3z (l.getD 0 2) (l.getD 1 2)
 |13=>d9d l
 |_=>2
def a3p(k:Nat)(l:List Nat):Nat:=if l.length<a27 k∨a23 k<l.length then 2 else a4u k l
def vR(v:Nat):V2:=c34 (a1e v)
theorem c4d(P:Nat->Prop)(h0:P 0)(h1:P 1)(h2:P 2)(h3:P 3){v:Nat}(hv:v<=3):P v:=by
 have:v=0∨v=1∨v=2∨v=3:=by omega
 rcases this with rfl|rfl|rfl|rfl<;>assumption
theorem c75{v:Nat}(hv:v<=3):a1e (a5u v)=c34 (a1e v)∧a5u v<=3:=c4d (λv=>a1e (a5u v)=c34 (a1e v)∧a5u v<=3) (by decide) (by decide) (by decide) (by decide) hv
theorem d1j{v:Nat}(hv:v<=3):a1e (b3e v)=c9x (c34 (a1e v))∧b3e v<=3:=c4d (λv=>a1e (b3e v)=c9x (c34 (a1e v))∧b3e v<=3) (by decide) (by decide) (by decide) (by decide) hv
theorem b1s{v:Nat}(hv:v<=2):a1e (b3e v)=c9x (a1e v)∧b3e v<=3:=by
 have:v=0∨v=1∨v=2:=by omega
 rcases this with rfl|rfl|rfl<;>decide
theorem d4c:∀(l:List V2),l.foldl c79 (false,true)=(false,true)
 | []=>rfl
 |a::l=>by rw[List.foldl_cons,show c79 (false,true) a=(false,true) by simp[c79]];exact d4c l
theorem d99:∀(l:List V2),l.foldl vOr (true,false)=(true,false)
 | []=>rfl
 |a::l=>by rw[List.foldl_cons,show vOr (true,false) a=(true,false) by simp[vOr]];exact d99 l
theorem c31:∀(l:List V2),l.foldl c78 (false,false)=(false,false)
 | []=>rfl
 |a::l=>by rw[List.foldl_cons,show c78 (false,false) a=(false,false) by simp[c78]];exact c31 l
theorem b1b:∀(l:List Nat) (out:Nat),(out=1∨out=2)->(∀v∈l,v<=3)->(l.map vR).foldl c79 (a1e out)=a1e (a71 0 1 out l)∧a71 0 1 out l<=2
 | [],out,ho,_=>by rcases ho with rfl|rfl<;>decide
 |v::l,out,ho,hv=>by
  have hl:=λv h=>hv v (List.mem_cons_of_mem _ h);rw[List.map_cons,List.foldl_cons];refine c4d (λv=>(l.map vR).foldl c79 (c79 (a1e out) (vR v))=a1e (a71 0 1 out (v::l))∧a71 0 1 out (v::l)<=2) ?_ ?_ ?_ ?_ (hv v (List.mem_cons_self ..))
  ·have:c79 (a1e out) (vR 0)=(false,true):=by rcases ho with rfl|rfl<;>decide
   rw[this,d4c];simp only[a71,if_true];decide
  ·have:c79 (a1e out) (vR 1)=a1e out:=by rcases ho with rfl|rfl<;>decide
   rw[this];simp only[a71];exact b1b l out ho hl
  ·have:c79 (a1e out) (vR 2)=a1e 2:=by rcases ho with rfl|rfl<;>decide
   rw[this];simp only[a71];exact b1b l 2 (.inr rfl) hl
  ·have:c79 (a1e out) (vR 3)=a1e 2:=by rcases ho with rfl|rfl<;>decide
   rw[this];simp only[a71];exact b1b l 2 (.inr rfl) hl
theorem b4i:∀(l:List Nat) (out:Nat),(out=0∨out=2)->(∀v∈l,v<=3)->(l.map vR).foldl vOr (a1e out)=a1e (a71 1 0 out l)∧a71 1 0 out l<=2
 | [],out,ho,_=>by rcases ho with rfl|rfl<;>decide
 |v::l,out,ho,hv=>by
  have hl:=λv h=>hv v (List.mem_cons_of_mem _ h);rw[List.map_cons,List.foldl_cons];refine c4d (λv=>(l.map vR).foldl vOr (vOr (a1e out) (vR v))=a1e (a71 1 0 out (v::l))∧a71 1 0 out (v::l)<=2) ?_ ?_ ?_ ?_ (hv v (List.mem_cons_self ..))
  ·have:vOr (a1e out) (vR 0)=a1e out:=by rcases ho with rfl|rfl<;>decide
   rw[this];simp only[a71];exact b4i l out ho hl
  ·have:vOr (a1e out) (vR 1)=(true,false):=by rcases ho with rfl|rfl<;>decide
   rw[this,d99];simp only[a71,if_true];decide
  ·have:vOr (a1e out) (vR 2)=a1e 2:=by rcases ho with rfl|rfl<;>decide
   rw[this];simp only[a71];exact b4i l 2 (.inr rfl) hl
  ·have:vOr (a1e out) (vR 3)=a1e 2:=by rcases ho with rfl|rfl<;>decide
   rw[this];simp only[a71];exact b4i l 2 (.inr rfl) hl
theorem b34:∀(l:List Nat) (out:Nat),(out=0∨out=1)->(∀v∈l,v<=3)->(l.map vR).foldl c78 (a1e out)=a1e (b6p out l)∧b6p out l<=2
 | [],out,ho,_=>by rcases ho with rfl|rfl<;>decide
 |v::l,out,ho,hv=>by
  have hl:=λv h=>hv v (List.mem_cons_of_mem _ h);rw[List.map_cons,List.foldl_cons];refine c4d (λv=>(l.map vR).foldl c78 (c78 (a1e out) (vR v))=a1e (b6p out (v::l))∧b6p out (v::l)<=2) ?_ ?_ ?_ ?_ (hv v (List.mem_cons_self ..))
  ·have:c78 (a1e out) (vR 0)=a1e out:=by rcases ho with rfl|rfl<;>decide
   rw[this];simp only[b6p,Nat.xor_zero];exact b34 l out ho hl
  ·have:c78 (a1e out) (vR 1)=a1e (out^^^1):=by rcases ho with rfl|rfl<;>decide
   rw[this];simp only[b6p];exact b34 l (out^^^1) (by rcases ho with rfl|rfl<;>decide) hl
  ·have:c78 (a1e out) (vR 2)=(false,false):=by rcases ho with rfl|rfl<;>decide
   rw[this,c31];exact⟨rfl,by show(2:Nat)<=2;decide⟩
  ·have:c78 (a1e out) (vR 3)=(false,false):=by rcases ho with rfl|rfl<;>decide
   rw[this,c31];exact⟨rfl,by show(2:Nat)<=2;decide⟩
theorem d6j{s a b:Nat}(hs:s<=3)(ha:a<=3)(hb:b<=3):a1e (c1j s a b)=e89 (vR s) (vR a) (vR b)∧c1j s a b<=3:=by
 have h:∀s:Fin 4,∀a:Fin 4,∀b:Fin 4,a1e (c1j s a b)=e89 (vR s) (vR a) (vR b)∧c1j s a b<=3:=by decide
 exact h ⟨s,by omega⟩ ⟨a,by omega⟩ ⟨b,by omega⟩
theorem d5b{e d:Nat}(he:e<=3)(hd:d<=3):a1e (c3z e d)=e88 (vR e) (vR d)∧c3z e d<=3:=by
 have h:∀e:Fin 4,∀d:Fin 4,a1e (c3z e d)=e88 (vR e) (vR d)∧c3z e d<=3:=by decide
 exact h ⟨e,by omega⟩ ⟨d,by omega⟩
theorem d9o:∀(l:List Nat) (s:Bool×Bool×Bool),(∀v∈l,v<=3)->(l.map a1e).foldl c77 s=(s.1||decide (1∈l),s.2.1||decide (0∈l),s.2.2||decide (2∈l))
 | [],s,_=>by simp
 |v::l,s,hv=>by
  have hl:=λv h=>hv v (List.mem_cons_of_mem _ h);rw[List.map_cons,List.foldl_cons,d9o l _ hl];obtain⟨a,b,c⟩:=s;refine c4d (λv=>((c77 (a,b,c) (a1e v)).1||decide (1∈l),(c77 (a,b,c) (a1e v)).2.1||decide (0∈l),(c77 (a,b,c) (a1e v)).2.2||decide (2∈l))=(a||decide (1∈v::l),b||decide (0∈v::l),c||decide (2∈v::l))) ?_ ?_ ?_ ?_ (hv v (List.mem_cons_self ..)) <;>
   simp[c77,a1e,a51,List.mem_cons]
theorem d85(l:List Nat)(hv:∀v∈l,v<=3):a1e (d9d l)=f0g (l.map a1e)∧d9d l<=3:=by
 have hx:l.any (λv=>decide (a51 v=2))=decide (2∈l):=by
  rw[Bool.eq_iff_iff,List.any_eq_true,decide_eq_true_eq];constructor
  ·rintro⟨v,h,hc⟩
   have h3:=hv v h;have:v=2:=by revert hc h3;revert v;intro v _ hc h3;exact c4d (λv=>decide (a51 v=2)=true->v=2) (by decide) (by decide) (by decide) (by decide) h3 hc
   exact this▸h
  ·intro h;exact⟨2,h,by decide⟩
 unfold f0g d9d;rw[d9o l _ hv,hx];cases hf:l.findIdx? (λv=>decide (v≠3))with
 |none=>
  have hn:=List.findIdx?_eq_none_iff.1 hf;have h1:∀k,k≠3->k∉l:=λk hk hm=>by have:=hn k hm;simp[hk]at this
  simp only[h1 0 (by decide),h1 1 (by decide),h1 2 (by decide),decide_false,Bool.or_false];decide
 |some i=>
  obtain⟨hi,hp,_⟩:=List.findIdx?_eq_some_iff_getElem.1 hf;have hm:l.getD i 0∈l:=by rw[List.getD,List.getElem?_eq_getElem hi];exact List.getElem_mem hi
  have he:l.getD i 0≠3:=by rw[List.getD,List.getElem?_eq_getElem hi];simpa using hp
  have h3:=hv _ hm;show a1e (if _ then 2 else l.getD i 0)=_∧(if _ then 2 else l.getD i 0)<=3;generalize l.getD i 0=w at hm he h3⊢;have hw:w=0∨w=1∨w=2:=by omega
  simp only[Bool.false_or];by_cases h2:2∈l
  ·simp only[h2,decide_true,Bool.or_true,if_true];cases decide (1∈l)<;>cases decide (0∈l)<;>decide
  ·simp only[h2,decide_false,Bool.or_false];rcases hw with rfl|rfl|rfl
   ·simp only[hm,decide_true,Bool.true_and];cases decide (1∈l)<;>decide
   ·simp only[hm,decide_true,Bool.and_true];cases decide (0∈l)<;>decide
   ·exact absurd hm h2
theorem f1t(l:List Nat):(l.map a1e).map c34=l.map vR:=by rw[List.map_map];rfl
theorem b0d(l:List Nat)(i:Nat)(hi:i<l.length):(l.map vR).getD i (false,false)=vR (l.getD i 2):=by simp only[List.getD_eq_getElem?_getD,List.getElem?_map,List.getElem?_eq_getElem hi,Option.map_some,Option.getD_some]
theorem e25(l:List Nat)(hv:∀v∈l,v<=3)(i:Nat):l.getD i 2<=3:=by
 simp only[List.getD_eq_getElem?_getD];cases h:l[i]? with
 |none=>decide
 |some v=>exact hv v (List.mem_of_getElem? h)
theorem d3e(k:Nat)(l:List Nat)(hv:∀v∈l,v<=3):a1e (a3p k l)=e56 k (l.map a1e)∧a3p k l<=3:=by
 unfold a3p e56;rw[List.length_map];split
 ·decide
 rename_i ak;have lo:a27 k<=l.length:=by omega
 by_cases h13:k=13
 ·subst h13;rw[if_pos rfl];exact d85 l hv
 rw[if_neg h13,f1t];have g:=e25 l hv;unfold a4u;split
 ·exact⟨rfl,by decide⟩
 ·exact⟨rfl,by decide⟩
 ·show a1e (a5u (l.getD 0 2))=(l.map vR).getD 0 (false,false)∧_;rw[b0d _ _ (Nat.lt_of_lt_of_le (by decide) lo)];exact c75 (g 0)
 ·show a1e (b3e (l.getD 0 2))=c9x ((l.map vR).getD 0 (false,false))∧_;rw[b0d _ _ (Nat.lt_of_lt_of_le (by decide) lo)];exact d1j (g 0)
 ·have:=b1b l 1 (.inl rfl) hv;exact⟨this.1.symm,by omega⟩
 ·have:=b1b l 1 (.inl rfl) hv;show a1e (b3e (a71 0 1 1 l))=c9x ((l.map vR).foldl c79 (a1e 1))∧_;rw[this.1];exact b1s this.2
 ·have:=b4i l 0 (.inl rfl) hv;exact⟨this.1.symm,by omega⟩
 ·have:=b4i l 0 (.inl rfl) hv;show a1e (b3e (a71 1 0 0 l))=c9x ((l.map vR).foldl vOr (a1e 0))∧_;rw[this.1];exact b1s this.2
 ·have:=b34 l 0 (.inl rfl) hv;exact⟨this.1.symm,by omega⟩
 ·have:=b34 l 0 (.inl rfl) hv;show a1e (b3e (b6p 0 l))=c9x ((l.map vR).foldl c78 (a1e 0))∧_;rw[this.1];exact b1s this.2
 ·show a1e (c1j (l.getD 0 2) (l.getD 1 2) (l.getD 2 2))=e89 ((l.map vR).getD 0 (false,false)) ((l.map vR).getD 1 (false,false)) ((l.map vR).getD 2 (false,false))∧_;rw[b0d _ _ (Nat.lt_of_lt_of_le (by decide) lo),b0d _ _ (Nat.lt_of_lt_of_le (by decide) lo),b0d _ _ (Nat.lt_of_lt_of_le (by decide) lo)];exact d6j (g 0) (g 1) (g 2)
 ·show a1e (c3z (l.getD 0 2) (l.getD 1 2))=e88 ((l.map vR).getD 0 (false,false)) ((l.map vR).getD 1 (false,false))∧_;rw[b0d _ _ (Nat.lt_of_lt_of_le (by decide) lo),b0d _ _ (Nat.lt_of_lt_of_le (by decide) lo)];exact d5b (g 0) (g 1)
 ·exact absurd rfl h13
 ·refine⟨?_,by decide⟩;unfold d8o;split<;>first|rfl|(exfalso;simp_all)
end Go.Pc
/- PcTwo: the simulation over values; what is laid into the nets before it begins does not matter. Plain. -/
namespace Go.Pc
open Go.Ax
theorem d7y(v:Nat):a51 v<=3:=by unfold a51;split<;>omega
theorem c6m{v:Nat}(h:v<=3):a51 v=v:=by unfold a51;rw[if_neg (by omega)]
theorem b4u{l:List Nat}(h:∀v∈l,v<=3):l.map a51=l:=by have:=List.map_congr_left (f:=a51) (g:=λv=>v) (l:=l) (λv hv=>c6m (h v hv));rw[this,List.map_id']
def nAlg:Alg Nat:=⟨λk l=>a3p k (l.map a51),0,λv=>v⟩
theorem b93(k:Nat)(l:List Nat)(h:∀v∈l,v<=3):a3p k l<=3:=(d3e k l h).2
section
variable {α:Type}{A B:Alg α}(iR:A.ev=B.ev){nodes:List Nd}{h:Hk α}
end
end Go.Pc
/- PcDet: what a pattern detects, by values: the responses of the two runs contradict each other. Plain. -/
namespace Go.Pc
open Go.Ax
def a62(nodes:List Nd)(h:Hk Nat)(ag:List Nat)(sts:List Nat):List Nat:=sts.map λn=>if(a1o nAlg nodes h ag n).getD 0 0=3 then 2 else(a1o nAlg nodes h ag n).getD 0 0
def d51(h:Hk Nat):Prop:=(∀n v,v<=3->h.net n v<=3)∧∀n p v,v<=3->h.pin n p v<=3
theorem d9g:d51 hk0:=⟨λ_ _ h=>h,λ_ _ _ h=>h⟩
theorem e6t{f:Flt}{v:Nat}(h:v<=3):d51 (hkF f v):=by
 constructor
 ·intro n w hw;unfold hkF;dsimp only;split
  ·exact h
  ·exact hw
 ·intro n p w hw;unfold hkF;dsimp only;split
  ·exact h
  ·exact hw
theorem b0z{l:List Nat}(h:∀v∈l,v<=3)(n:Nat):l.getD n 0<=3:=by
 rw[List.getD];cases hn:l[n]? with
 |none=>decide
 |some v=>exact h v (List.mem_of_getElem? hn)
theorem c5b{h:Hk Nat}(hh:d51 h){ag:List Nat}(hn:∀v∈ag,v<=3)(n:Nat):∀(l:List Nat) (p:Nat),∀v∈a5t nAlg h n ag p l,v<=3
 | [],p,v,hv=>by simp[a5t]at hv
 |m::l,p,v,hv=>by
  simp only[a5t,List.mem_cons]at hv;rcases hv with rfl|hv
  ·exact hh.2 _ _ _ (b0z hn m)
  ·exact c5b hh hn n l (p+1) v hv
theorem d9c(k:Nat)(l:List Nat):nAlg.ev k l<=3:=b93 k _ (λv hv=>by obtain⟨w,_,rfl⟩:=List.mem_map.1 hv;exact d7y w)
theorem d0c{nodes:List Nd}{h:Hk Nat}(hh:d51 h){ag:List Nat}(hn:∀v∈ag,v<=3)(n:Nat):∀v∈stepG nAlg nodes h ag n,v<=3:=by
 intro v hv;unfold stepG at hv;rcases List.mem_or_eq_of_mem_set hv with h1|h1
 ·exact hn v h1
 ·rw[h1];refine hh.1 _ _ ?_;split
  ·exact d9c _ _
  ·exact b0z hn n
theorem d35{nodes:List Nd}{h:Hk Nat}(hh:d51 h):∀(ord:List Nat) (ag:List Nat),(∀v∈ag,v<=3)->∀v∈ord.foldl (stepG nAlg nodes h) ag,v<=3
 | [],ag,hn=>hn
 |x::ord,ag,hn=>by rw[List.foldl_cons];exact d35 hh ord _ (d0c hh hn x)
theorem b4w:∀(is vs N:List Nat),(∀v∈N,v<=3)->(∀v∈vs,v<=3)->∀v∈a25 N is vs,v<=3
 | [],vs,N,h,_=>by cases vs<;>exact h
 |_::_,[],N,h,_=>h
 |i::is,w::vs,N,h,hv=>by
  simp only[a25];refine b4w is vs _ (λv hm=>?_) (λv hm=>hv v (List.mem_cons_of_mem _ hm));rcases List.mem_or_eq_of_mem_set hm with h1|h1
  ·exact h v h1
  ·rw[h1];exact hv w (List.mem_cons_self ..)
theorem b3d{nodes:List Nd}{h:Hk Nat}(hh:d51 h)(ord ins sts vi vs:List Nat)(hi:∀v∈vi,v<=3)(hs:∀v∈vs,v<=3):∀v∈c84 nAlg nodes h ord ins sts vi vs,v<=3:=d35 hh _ _ (b4w _ _ _ (b4w _ _ _ (λv hv=>by rw[List.eq_of_mem_replicate hv];show(0:Nat)<=3;decide) hi) hs)
structure Sim.good(S:Sim):Prop where
 perm:S.ord.Perm (List.range S.nodes.length)
 topo:e80 S.nodes S.ord
 comb:∀n,n<S.nodes.length->a0u S.nodes n≠0∧a0u S.nodes n≠14->a1r (a0u S.nodes n)=true
 inn:∀n,n<S.nodes.length->∀m∈a28 S.nodes n,m<S.nodes.length
 ins:∀n,n∈S.ins↔n<S.nodes.length∧a0u S.nodes n=0
 sts:∀n,n∈S.sts↔n<S.nodes.length∧a0u S.nodes n=14
 dff:∀n∈S.sts,a28 S.nodes n≠[]
 outs:∀n∈S.outs,n<S.nodes.length
section
variable {S:Sim}(hS:S.good){p:Pat}(uH:S.ins.length=p.ins.length)(jp:S.sts.length=p.sts.length)
include hS uH jp
end
end Go.Pc
/- PcMemW: the circuits with a memory are valid. Plain. -/
namespace Go.Pc
open Go.Ax
structure wfM(c:Cir)(mm:Mm):Prop where
 pos:0<c.nodes.length
 len:c.nodes.length<=16
 names:c.names=(List.range c.nodes.length).map a1l
 kind:∀x∈c.nodes,x.kind<=15
 lo:∀x∈c.nodes,a27 x.kind<=x.ins.length
 hi:∀x∈c.nodes,x.ins.length<=a23 x.kind
 ins:∀x∈c.nodes,∀m∈x.ins,m<c.nodes.length
 bus:∀x∈c.nodes,x.kind=13->∀m∈x.ins,a0u c.nodes m=12
 mem:∀x∈c.nodes,(x.kind<=14∧x.mem=0∧x.bit=0)∨(x.kind=15∧x.mem=0∧x.bit<=1)
 acyc:∀(i:Nat) (x:Nd),c.nodes[i]?=some x->a1r x.kind=true->∀m∈x.ins,m<i
 outs:∀o∈c.outs,o<c.nodes.length
 outl:c.outs.length<=4
 port:mm.a<c.nodes.length∧mm.d0<c.nodes.length∧mm.d1<c.nodes.length∧mm.w<c.nodes.length
theorem wfM.insl{c:Cir}{mm:Mm}(h:wfM c mm){x:Nd}(hx:x∈c.nodes):x.ins.length<=16:=by
 have k14:=h.kind x hx;have my:=h.hi x hx;have:a23 x.kind<=16:=by
  have hk:x.kind=0∨x.kind=1∨x.kind=2∨x.kind=3∨x.kind=4∨x.kind=5∨x.kind=6∨x.kind=7∨x.kind=8∨x.kind=9∨x.kind=10∨x.kind=11∨x.kind=12∨x.kind=13∨x.kind=14∨x.kind=15:=by omega
  rcases hk with e|e|e|e|e|e|e|e|e|e|e|e|e|e|e|e<;>rw[e]<;>decide
 omega
theorem FoOk.totalM{nodes:List Nd}{i k j:Nat}{fo:List (List (Nat×Nat))}{L:List (Nat×Nat)}(h:FoOk nodes i k fo)(hL:fo[j]?=some L)(hn:nodes.length<=16)(hx:∀y∈nodes,y.ins.length<=16)(hi:i<=nodes.length:=by omega):L.length<=256:=by
 have hb:∀a,cnt L a<=16:=by
  intro a;have kq:(a28 nodes a).length<=16:=by
   unfold a28;cases fY:nodes[a]? with
   |none=>simp
   |some x=>exact hx x (List.mem_of_getElem? fY)
  rw[h.num j L hL a];split
  ·exact Nat.le_trans List.count_le_length kq
  split
  ·rename_i e;subst e;refine Nat.le_trans List.count_le_length ?_;rw[List.length_take];omega
  ·omega
 rw[c43 nodes.length L (h.node hL hi)];have s:∀l:List Nat,(l.map λa=>cnt L a).sum<=16*l.length:=by
  intro l
  induction l with
  |nil=>simp
  |cons a l ih=>have:=hb a;simp only[List.map_cons,List.sum_cons,List.length_cons];omega
 have:=s (List.range nodes.length);rw[List.length_range]at this;omega
end Go.Pc
/- PcMemX: the circuits with a memory are valid. Plain. -/
namespace Go.Pc
open Go.Ax
theorem CX.dnM_len(x:CX):x.dnM.length=x.d:=by have:x.d<3:=Nat.mod_lt _ (by omega);unfold CX.dnM;rw[List.length_map,List.length_take];simp;omega
theorem CX.nodesM_len(x:CX):x.nodesM.length=x.nM:=by unfold CX.nodesM CX.nM;rw[List.length_append,List.length_append,List.length_append,List.length_replicate,x.dnM_len,a2f];show x.k+x.d+2+_=_;omega
theorem CX.dnM_kind(x:CX):x.dnM.map Nd.kind=List.replicate x.d 14:=by
 have:x.d=0∨x.d=1∨x.d=2:=by have:x.d<3:=Nat.mod_lt _ (by omega);omega
 unfold CX.dnM;rcases this with h|h|h<;>rw[h]<;>rfl
theorem CX.baseM_len(x:CX):x.baseM.length=x.k+x.d+2:=by unfold CX.baseM;rw[List.length_append,x.base_len];rfl
theorem CX.kindsM(x:CX):x.nodesM.map Nd.kind=x.baseM++(gN x.bus x.baseM x.gs).map Nd.kind:=by unfold CX.nodesM;rw[List.map_append,List.map_append,List.map_append,List.map_replicate,x.dnM_kind];rfl
theorem CX.node_casesM(x:CX){i:Nat}{nd:Nd}(h:x.nodesM[i]?=some nd):nd=b0p∨(∃v,nd=a4n (v%x.nM))∨nd=mNd 0∨nd=mNd 1∨GateOk ((x.nodesM.map Nd.kind).take i) nd:=by
 unfold CX.nodesM at h;by_cases h1:i<x.k
 ·rw[List.append_assoc,List.append_assoc,List.getElem?_append_left (by simpa using h1),List.getElem?_replicate,if_pos h1]at h;exact .inl (Option.some.inj h).symm
 rw[List.append_assoc,List.append_assoc,List.getElem?_append_right (by simpa using h1),List.length_replicate]at h;by_cases h2:i-x.k<x.d
 ·rw[List.getElem?_append_left (by rw[x.dnM_len];exact h2)]at h;unfold CX.dnM at h;rw[List.getElem?_map]at h;cases hv:([x.d0,x.d1].take x.d)[i-x.k]? with
  |none=>rw[hv]at h;cases h
  |some v=>rw[hv]at h;exact .inr (.inl ⟨v,(Option.some.inj h).symm⟩)
 ·rw[List.getElem?_append_right (by rw[x.dnM_len];omega),x.dnM_len]at h;by_cases h3:i-x.k-x.d<2
  ·rw[List.getElem?_append_left h3]at h;have l3:i-x.k-x.d=0∨i-x.k-x.d=1:=by omega
   rcases l3 with e|e<;>rw[e]at h
   ·exact .inr (.inr (.inl (Option.some.inj h).symm))
   ·exact .inr (.inr (.inr (.inl (Option.some.inj h).symm)))
  ·rw[List.getElem?_append_right (show mN.length<=_ from Nat.le_of_not_lt h3)]at h;obtain⟨g,hg⟩:=c63 _ _ _ _ _ h;refine .inr (.inr (.inr (.inr ?_)));have e:(x.nodesM.map Nd.kind).take i=x.baseM++((gN x.bus x.baseM x.gs).take (i-x.k-x.d-mN.length)).map Nd.kind:=by
    have hm:mN.length=2:=rfl;rw[x.kindsM,List.take_append,List.take_of_length_le (by rw[x.baseM_len];omega),x.baseM_len,List.map_take]
    congr 2;omega
   rw[e,hg];exact b5c _ _ _ (by rw[List.length_append,x.baseM_len];omega)
theorem CX.wfM(x:CX):Go.Pc.wfM x.cirM x.memA:=by
 have hn:=x.nodesM_len;have hk:x.k<=4∧0<x.k:=by unfold CX.k;omega
 have hd:x.d<3:=Nat.mod_lt _ (by omega);have hg:x.gs.length<=8:=by unfold CX.gs;rw[List.length_take];omega
 have bG:x.nM=x.k+(x.d+2)+x.gs.length:=rfl;have key:∀nd∈x.nodesM,∃i,x.nodesM[i]?=some nd∧i<x.nM:=by intro nd h;obtain⟨i,hi⟩:=List.mem_iff_getElem?.1 h;exact⟨i,hi,by rw[<-hn];exact(List.getElem?_eq_some_iff.1 hi).1⟩
 have hl:∀i,i<x.nM->((x.nodesM.map Nd.kind).take i).length=i:=λi hi=>by rw[List.length_take,List.length_map,hn];omega
 have ez:∀nd∈x.nodesM,nd=b0p∨(∃v,nd=a4n (v%x.nM))∨nd=mNd 0∨nd=mNd 1∨∃i,i<x.nM∧GateOk ((x.nodesM.map Nd.kind).take i) nd:=by
  intro nd h;obtain⟨i,hi,ai⟩:=key nd h;rcases x.node_casesM hi with h|h|h|h|h
  ·exact .inl h
  ·exact .inr (.inl h)
  ·exact .inr (.inr (.inl h))
  ·exact .inr (.inr (.inr (.inl h)))
  ·exact .inr (.inr (.inr (.inr ⟨i,ai,h⟩)))
 refine⟨by show 0<x.nodesM.length;omega,by show x.nodesM.length<=16;omega,by show(List.range x.nM).map a1l=_;rw[show x.cirM.nodes=x.nodesM from rfl,hn],?_,?_,?_,?_,?_,?_,?_,?_,?_,?_⟩
 ·intro nd h;rcases ez nd h with rfl|⟨v,rfl⟩|rfl|rfl|⟨i,hi,h⟩
  ·decide
  ·exact Nat.le_succ 14
  ·exact Nat.le_refl 15
  ·exact Nat.le_refl 15
  ·have:=h.k13;omega
 ·intro nd h;rcases ez nd h with rfl|⟨v,rfl⟩|rfl|rfl|⟨i,hi,h⟩
  ·decide
  ·exact Nat.le_refl 1
  ·decide
  ·decide
  ·exact h.lo
 ·intro nd h;rcases ez nd h with rfl|⟨v,rfl⟩|rfl|rfl|⟨i,hi,h⟩
  ·decide
  ·exact Nat.le_refl 1
  ·decide
  ·decide
  ·exact h.hi
 ·intro nd h m hm;show m<x.nodesM.length;rw[hn];rcases ez nd h with rfl|⟨v,rfl⟩|rfl|rfl|⟨i,hi,h⟩
  ·simp[b0p]at hm
  ·simp only[a4n,List.mem_cons,List.not_mem_nil,or_false]at hm;subst hm;exact Nat.mod_lt _ (by omega)
  ·simp[mNd]at hm
  ·simp[mNd]at hm
  ·have:=h.ins m hm;rw[hl i hi]at this;omega
 ·intro nd h h13 m hm;rcases ez nd h with rfl|⟨v,rfl⟩|rfl|rfl|⟨i,hi,h⟩
  ·simp[b0p]at hm
  ·simp[a4n]at h13
  ·simp[mNd]at hm
  ·simp[mNd]at hm
  ·have h1:=h.bus h13 m hm;have h2:=h.ins m hm;rw[hl i hi]at h2;rw[List.getElem?_take,if_pos h2,List.getElem?_map]at h1;show a0u x.nodesM m=12;unfold a0u;rw[h1];rfl
 ·intro nd h;rcases ez nd h with rfl|⟨v,rfl⟩|rfl|rfl|⟨i,hi,h⟩
  ·exact .inl ⟨by decide,rfl,rfl⟩
  ·exact .inl ⟨Nat.le_refl 14,rfl,rfl⟩
  ·exact .inr ⟨rfl,rfl,by decide⟩
  ·exact .inr ⟨rfl,rfl,by decide⟩
  ·exact .inl ⟨by have:=h.k13;omega,h.mem.1,h.mem.2⟩
 ·intro i nd h hc m hm;have ai:i<x.nM:=by rw[<-hn];exact(List.getElem?_eq_some_iff.1 h).1
  rcases x.node_casesM h with rfl|⟨v,rfl⟩|rfl|rfl|h
  ·simp[b0p]at hm
  ·simp[a4n,a1r]at hc
  ·simp[mNd]at hm
  ·simp[mNd]at hm
  ·have:=h.ins m hm;rw[hl i ai]at this;exact this
 ·intro o ho;show o<x.nodesM.length;rw[hn];have ho:o∈x.outNM:=ho;unfold CX.outNM at ho;simp only[List.mem_append,List.mem_map,List.mem_cons,List.not_mem_nil,or_false]at ho;rcases ho with ⟨a,_,rfl⟩|rfl
  ·exact Nat.mod_lt _ (by omega)
  ·omega
 ·show x.outNM.length<=4;unfold CX.outNM;simp;omega
 ·show x.p0%x.nM<x.nodesM.length∧x.p1%x.nM<x.nodesM.length∧x.p2%x.nM<x.nodesM.length∧x.p3%x.nM<x.nodesM.length;rw[hn];exact⟨Nat.mod_lt _ (by omega),Nat.mod_lt _ (by omega),Nat.mod_lt _ (by omega),Nat.mod_lt _ (by omega)⟩
end Go.Pc
/- PcMono: more is known, no less is found: a run whose inputs tell more gives nets that tell more. Plain. -/
namespace Go.Pc
open Go.Ax
def le2(a b:Nat):Prop:=a=b∨a=2
structure HkM(h g:Hk Nat):Prop where
 net:∀n v w,le2 v w->le2 (h.net n v) (g.net n w)
 pin:∀n p v w,le2 v w->le2 (h.pin n p v) (g.pin n p w)
section
variable {nodes:List Nd}{h g:Hk Nat}(hh:HkM h g)
include hh
end
end Go.Pc
