/- PcWord: words of 64 values as d3y data. Plain definitions. -/
import Derived.Test.YtbmkmaobejlkgaaGreatDoorPcP
import Derived.Test.YtbmkmaobejlkgaaGreatDoorAxD
set_option linter.unusedSimpArgs false
set_option linter.unusedVariables false
namespace Go.Pc
open Go.Ax
structure W where
 one:BitVec 64
 zero:BitVec 64
def a2n(v:Nat):Nat:=if 3<v then 2 else v
def a25(k:Nat):Nat:=[0,0,0,1,1,2,2,2,2,2,2,3,2,1,1,0].getD k 0
def a26(k:Nat):Nat:=[0,0,0,1,1,16,16,16,16,16,16,3,2,16,1,0].getD k 0
def a1l(k:Nat):Bool:=decide (1≤k)&&decide (k≤13)
end Go.Pc
/- PcSim: one cycle of a circuit, over words or over single values; lanes of words are single values. Plain definitions. -/
namespace Go.Pc
open Go.Ax
structure Alg(α:Type) where
 ev:Nat→List α→α
 z:α
 fill:Nat→α
structure Hk(α:Type) where
 net:Nat→α→α
 pin:Nat→Nat→α→α
structure Flt where
 model:Nat
 node:Nat
 pin:Int
 value:Nat
 other:Nat
def Flt.enc(f:Flt):List AV:=[.int .u8 f.model,.int .i64 f.node,.int .i64 f.pin,.int .u8 f.value,.int .i64 f.other]
structure Pat where
 ic:Rep
 ins:List Nat
 sc:Rep
 sts:List Nat
def Pat.enc(p:Pat):List AV:=[sl p.ic (p.ins.map u8R),sl p.sc (p.sts.map u8R)]
section
variable {α:Type}(A:Alg α)(nodes:List Nd)(h:Hk α)
def a0l(nodes:List Nd)(n:Nat):Nat:=(nodes[n]?.map Nd.kind).getD 0
def a1y(nodes:List Nd)(n:Nat):List Nat:=(nodes[n]?.map Nd.ins).getD []
def a2j(n:Nat)(nets:List α):Nat→List Nat→List α
 |_,[]=>[]
 |p,m::r=>h.pin n p (nets.getD m A.z)::a2j n nets (p+1) r
def a11(nets:List α)(n:Nat):List α:=a2j A h n nets 0 (a1y nodes n)
def stepG(nets:List α)(n:Nat):List α:=nets.set n (h.net n (if a0l nodes n≠0∧a0l nodes n≠14 then A.ev (a0l nodes n) (a11 A nodes h nets n)else nets.getD n A.z))
def a1f(nets:List α):List Nat→List α→List α
 |i::is,v::vs=>a1f (nets.set i v) is vs
 |_,_=>nets
def a9m(ord ins sts:List Nat)(vi vs:List α):List α:=ord.foldl (stepG A nodes h) (a1f (a1f (List.replicate nodes.length A.z) ins vi) sts vs)
def b7i(outs sts:List Nat)(nets:List α):List α:=outs.map (λn=>nets.getD n A.z)++sts.map (λn=>(a11 A nodes h nets n).getD 0 A.z)
def hk0:Hk α:=⟨λ_ w=>w,λ_ _ w=>w⟩
def a20(good:List α)(f:Flt):α:=
 if f.model=0 then A.fill f.value
 else if f.model=3 then good.getD f.other A.z
 else if f.value=0 then A.ev 5 [good.getD f.node A.z,good.getD f.other A.z]
 else A.ev 7 [good.getD f.node A.z,good.getD f.other A.z]
def Flt.hitsNet(f:Flt)(n:Nat):Bool:=decide (f.pin<0)&&(decide (n=f.node)||(decide (f.model=2)&&decide (n=f.other)))
def Flt.hitsPin(f:Flt)(n p:Nat):Bool:=decide (0≤f.pin)&&(decide (n=f.node)&&decide ((p:Int)=f.pin))
def hkF(f:Flt)(v:α):Hk α:=⟨λn w=>if f.hitsNet n then v else w,λn p w=>if f.hitsPin n p then v else w⟩
end
structure Hom{α β:Type}(A:Alg α)(B:Alg β)(φ:α→β):Prop where
 ev:∀k l,φ (A.ev k l)=B.ev k (l.map φ)
 z:φ A.z=B.z
 fill:∀v,φ (A.fill v)=B.fill v
structure HkHom{α β:Type}(φ:α→β)(h:Hk α)(k:Hk β):Prop where
 net:∀n w,φ (h.net n w)=k.net n (φ w)
 pin:∀n p w,φ (h.pin n p w)=k.pin n p (φ w)
section
variable {α β:Type}{A:Alg α}{B:Alg β}{φ:α→β}(hφ:Hom A B φ){nodes:List Nd}{h:Hk α}{k:Hk β}(hk:HkHom φ h k)
include hφ
theorem a79(l:List α)(n:Nat):φ (l.getD n A.z)=(l.map φ).getD n B.z:=by
 simp only[List.getD_eq_getElem?_getD,List.getElem?_map];cases l[n]? with
 |none=>exact hφ.z
 |some x=>rfl
include hk
theorem b2z(n:Nat)(nets:List α):∀(l:List Nat) (p:Nat),(a2j A h n nets p l).map φ=a2j B k n (nets.map φ) p l
 | [],_=>rfl
 |m::r,p=>by simp only[a2j,List.map_cons,hk.pin,a79 hφ,b2z n nets r (p+1)]
theorem b5w(nets:List α)(n:Nat):(a11 A nodes h nets n).map φ=a11 B nodes k (nets.map φ) n:=b2z hφ hk n nets _ 0
theorem c8c(nets:List α)(n:Nat):(stepG A nodes h nets n).map φ=stepG B nodes k (nets.map φ) n:=by
 unfold stepG;rw[List.map_set,hk.net]
 congr 2
 split
 ·rw[hφ.ev,b5w hφ hk]
 ·exact a79 hφ _ _
omit hk in
omit hφ in
theorem b3h:∀(is:List Nat) (vs:List α) (nets:List α),(a1f nets is vs).map φ=a1f (nets.map φ) is (vs.map φ)
 | [],vs,nets=>by cases vs<;>rfl
 |i::is,[],nets=>rfl
 |i::is,v::vs,nets=>by simp only[a1f,List.map_cons,b3h is vs,List.map_set]
theorem c03(ord ins sts:List Nat)(vi vs:List α):(a9m A nodes h ord ins sts vi vs).map φ=a9m B nodes k ord ins sts (vi.map φ) (vs.map φ):=by
 unfold a9m;have key:∀(ord:List Nat) (n0:List α),(ord.foldl (stepG A nodes h) n0).map φ=ord.foldl (stepG B nodes k) (n0.map φ):=by
  intro ord
  induction ord with
  |nil=>intro n0;rfl
  |cons a l ih=>intro n0;simp only[List.foldl_cons,ih,c8c hφ hk]
 rw[key,b3h,b3h,List.map_replicate,hφ.z]
theorem b9m(outs sts:List Nat)(nets:List α):(b7i A nodes h outs sts nets).map φ=b7i B nodes k outs sts (nets.map φ):=by
 unfold b7i;simp only[List.map_append,List.map_map]
 congr 1
 ·exact List.map_congr_left λn _=>a79 hφ _ _
 ·refine List.map_congr_left λn _=>?_;simp only[Function.comp,a79 hφ,b5w hφ hk]
omit hk in
theorem c6q(good:List α)(f:Flt):φ (a20 A good f)=a20 B (good.map φ) f:=by
 unfold a20;split
 ·exact hφ.fill _
 split
 ·exact a79 hφ _ _
 split
 ·rw[hφ.ev];simp only[List.map_cons,List.map_nil,a79 hφ]
 ·rw[hφ.ev];simp only[List.map_cons,List.map_nil,a79 hφ]
omit hk hφ in
theorem d0r:HkHom φ (hk0:Hk α) (hk0:Hk β):=⟨λ_ _=>rfl,λ_ _ _=>rfl⟩
omit hk hφ in
theorem d0p(f:Flt)(v:α):HkHom φ (hkF f v) (hkF f (φ v)):=⟨λn w=>by unfold hkF;dsimp only;split<;>rfl,λn p w=>by unfold hkF;dsimp only;split<;>rfl⟩
end
/-! ### single values -/
abbrev V2:=Bool×Bool
def a0n(v:Nat):V2:=match a2n v with
 |0=>(false,true)
 |1=>(true,false)
 |2=>(false,false)
 |_=>(true,true)
def c5m(a b:V2):V2:=(a.1&&b.1,a.2||b.2)
def vOr(a b:V2):V2:=(a.1||b.1,a.2&&b.2)
def c5l(a b:V2):V2:=(a.1&&b.2||a.2&&b.1,a.1&&b.1||a.2&&b.2)
def c1q(w:V2):V2:=(w.1 && !(w.1&&w.2),w.2 && !(w.1&&w.2))
def c7t(w:V2):V2:=(w.2,w.1)
def e6o(s a b:V2):V2:=(s.2&&a.1||s.1&&b.1||a.1&&b.1,s.2&&a.2||s.1&&b.2||a.2&&b.2)
def e6n(e d:V2):V2:=(e.2||e.1&&d.1,e.2||e.1&&d.2)
def c5k(s:Bool×Bool×Bool)(w:V2):Bool×Bool×Bool:=(s.1||(w.1 && !w.2),s.2.1||(w.2 && !w.1),s.2.2 || !(w.1||w.2))
def e8w(s:Bool×Bool×Bool):V2:=(!s.2.1 && !(s.2.2||(s.1&&s.2.1)),!s.1 && !(s.2.2||(s.1&&s.2.1)))
def e8x(l:List V2):V2:=e8w (l.foldl c5k (false,false,false))
def d77(k:Nat)(r:List V2):V2:=match k with
 |1=>a0n 0
 |2=>a0n 1
 |3=>r.getD 0 (false,false)
 |4=>c7t (r.getD 0 (false,false))
 |5=>r.foldl c5m (a0n 1)
 |6=>c7t (r.foldl c5m (a0n 1))
 |7=>r.foldl vOr (a0n 0)
 |8=>c7t (r.foldl vOr (a0n 0))
 |9=>r.foldl c5l (a0n 0)
 |10=>c7t (r.foldl c5l (a0n 0))
 |11=>e6o (r.getD 0 (false,false)) (r.getD 1 (false,false)) (r.getD 2 (false,false))
 |12=>e6n (r.getD 0 (false,false)) (r.getD 1 (false,false))
 |_=>a0n 2
def c7u(k:Nat)(l:List V2):V2:=
 if l.length<a25 k∨a26 k<l.length then a0n 2
 else if k=13 then e8x l
 else d77 k (l.map c1q)
def vAlg:Alg V2:=⟨c7u,(false,false),a0n⟩
section
variable {j:Nat}(hj:j<64)
include hj
end
/-! ### contradictions -/
def e8v(x y:V2):Bool:=(x.1 && !x.2&&y.2 && !y.1)||(x.2 && !x.1&&y.1 && !y.2)
def c5j:List V2→List V2→Bool→Bool
 |x::xs,y::ys,s=>c5j xs ys (s||e8v x y)
 |_,_,s=>s
/-! ### a circuit -/
structure Sim where
 nodes:List Nd
 ord:List Nat
 ins:List Nat
 sts:List Nat
 outs:List Nat
section
variable {α:Type}(A:Alg α)(S:Sim)
def Sim.nets(h:Hk α)(vi vs:List α):List α:=a9m A S.nodes h S.ord S.ins S.sts vi vs
def Sim.seen(h:Hk α)(nets:List α):List α:=b7i A S.nodes h S.outs S.sts nets
end
def Sim.det(S:Sim)(f:Flt)(p:Pat):Bool:=
 let vi:=p.ins.map a0n
 let vs:=p.sts.map a0n
 let good:=S.nets vAlg hk0 vi vs
 let h:=hkF f (a20 vAlg good f)
 c5j (S.seen vAlg hk0 good) (S.seen vAlg h (S.nets vAlg h vi vs)) false
end Go.Pc
/- PcWf: the circuits of the statements are valid. Plain. -/
namespace Go.Pc
open Go.Ax
structure Cir.wf(c:Cir):Prop where
 pos:0<c.nodes.length
 len:c.nodes.length≤14
 names:c.names=(List.range c.nodes.length).map a3t
 kind:∀x∈c.nodes,x.kind≤14
 lo:∀x∈c.nodes,a25 x.kind≤x.ins.length
 hi:∀x∈c.nodes,x.ins.length≤a26 x.kind
 ins:∀x∈c.nodes,∀m∈x.ins,m<c.nodes.length
 bus:∀x∈c.nodes,x.kind=13→∀m∈x.ins,a0l c.nodes m=12
 mem:∀x∈c.nodes,x.mem=0∧x.bit=0
 acyc:∀(i:Nat) (x:Nd),c.nodes[i]?=some x→a1l x.kind=true→∀m∈x.ins,m<i
 outs:∀o∈c.outs,o<c.nodes.length
 outl:c.outs.length≤4
theorem e10{k:Nat}(h:k<6):a25 (5+k)=2∧a26 (5+k)=16:=by
 have:k=0∨k=1∨k=2∨k=3∨k=4∨k=5:=by omega
 rcases this with rfl|rfl|rfl|rfl|rfl|rfl<;>exact⟨rfl,rfl⟩
structure GateOk(ks:List Nat)(x:Nd):Prop where
 k1:1≤x.kind
 k13:x.kind≤13
 lo:a25 x.kind≤x.ins.length
 hi:x.ins.length≤a26 x.kind
 ins:∀m∈x.ins,m<ks.length
 bus:x.kind=13→∀m∈x.ins,ks[m]?=some 12
 mem:x.mem=0∧x.bit=0
theorem c3m{ks:List Nat}{i:Nat}(h:i<(a8t ks).length):(a8t ks).getD i 0<ks.length∧ks[(a8t ks).getD i 0]?=some 12:=by
 have:(a8t ks).getD i 0∈a8t ks:=by rw[List.getD,List.getElem?_eq_getElem h];exact List.getElem_mem h
 exact c5n this
theorem d0y(bus:Bool)(g:GX)(ks:List Nat)(hp:0<ks.length):GateOk ks (a0j bus g ks):=by
 have a:=Nat.mod_lt g.i0 hp;have b:=Nat.mod_lt g.i1 hp;have d:=Nat.mod_lt g.i2 hp;unfold a0j;dsimp only;generalize(if bus=true then g.kind%13 else g.kind%9)=kind;split
 ·rename_i h6;obtain⟨e1,e2⟩:=e10 h6;split
  ·exact⟨by dsimp only;omega,by dsimp only;omega,by simp[e1],by simp[e2],by simp[a,b,d],by dsimp only;omega,⟨rfl,rfl⟩⟩
  ·exact⟨by dsimp only;omega,by dsimp only;omega,by simp[e1],by simp[e2],by simp[a,b],by dsimp only;omega,⟨rfl,rfl⟩⟩
 split
 ·exact⟨by dsimp only;omega,by dsimp only;omega,by simp[a25],by simp[a26],by simp[a],by simp,⟨rfl,rfl⟩⟩
 split
 ·exact⟨by dsimp only;omega,by dsimp only;omega,by simp[a25],by simp[a26],by simp[a,b,d],by simp,⟨rfl,rfl⟩⟩
 split
 ·exact⟨by dsimp only;omega,by dsimp only;omega,by simp[a25],by simp[a26],by simp[a,b],by simp,⟨rfl,rfl⟩⟩
 split
 ·rename_i h;have t0:=c3m (Nat.mod_lt g.i0 h.2);split
  ·have t1:=c3m (Nat.mod_lt (g.i0%(a8t ks).length+1) h.2);refine⟨by dsimp only;omega,by dsimp only;omega,by simp[a25],by simp[a26],?_,?_,⟨rfl,rfl⟩⟩
   ·intro m hm;simp only[List.mem_cons,List.not_mem_nil,or_false]at hm;rcases hm with rfl|rfl;exact t0.1;exact t1.1
   ·intro _ m hm;simp only[List.mem_cons,List.not_mem_nil,or_false]at hm;rcases hm with rfl|rfl;exact t0.2;exact t1.2
  ·refine⟨by dsimp only;omega,by dsimp only;omega,by simp[a25],by simp[a26],?_,?_,⟨rfl,rfl⟩⟩
   ·intro m hm;simp only[List.mem_cons,List.not_mem_nil,or_false]at hm;subst hm;exact t0.1
   ·intro _ m hm;simp only[List.mem_cons,List.not_mem_nil,or_false]at hm;subst hm;exact t0.2
 split
 ·have:g.i0%2=0∨g.i0%2=1:=by omega
  rcases this with h|h<;>rw[h]<;>exact⟨by dsimp only;omega,by dsimp only;omega,by simp[a25],by simp[a26],by simp,by simp,⟨rfl,rfl⟩⟩
 ·exact⟨by dsimp only;omega,by dsimp only;omega,by simp[a25],by simp[a26],by simp[a],by simp,⟨rfl,rfl⟩⟩
theorem d82(bus:Bool):∀(l:List GX) (ks:List Nat) (i:Nat) (x:Nd),(gN bus ks l)[i]?=some x→∃g,x=a0j bus g (ks++((gN bus ks l).take i).map Nd.kind)
 | [],ks,i,x,h=>by simp[gN]at h
 |g::l,ks,0,x,h=>by simp only[gN,List.getElem?_cons_zero,Option.some.injEq]at h;exact⟨g,by rw[←h];simp⟩
 |g::l,ks,i+1,x,h=>by simp only[gN,List.getElem?_cons_succ]at h;obtain⟨g',hg⟩:=d82 bus l _ i x h;exact⟨g',by rw[hg];simp[gN]⟩
theorem CX.dn_len(x:CX):x.dn.length=x.d:=by have:x.d<3:=Nat.mod_lt _ (by omega);unfold CX.dn;rw[List.length_map,List.length_take];simp;omega
theorem CX.nodes_len(x:CX):x.nodes.length=x.n:=by unfold CX.nodes CX.n;rw[List.length_append,List.length_append,List.length_replicate,x.dn_len,a55]
theorem CX.dn_kind(x:CX):x.dn.map Nd.kind=List.replicate x.d 14:=by
 have:x.d=0∨x.d=1∨x.d=2:=by have:x.d<3:=Nat.mod_lt _ (by omega);omega
 unfold CX.dn;rcases this with h|h|h<;>rw[h]<;>rfl
theorem CX.base_len(x:CX):x.base.length=x.k+x.d:=by unfold CX.base;simp
theorem CX.kinds(x:CX):x.nodes.map Nd.kind=x.base++(gN x.bus x.base x.gs).map Nd.kind:=by unfold CX.nodes CX.base;rw[List.map_append,List.map_append,List.map_replicate,x.dn_kind];rfl
theorem CX.node_cases(x:CX){i:Nat}{nd:Nd}(h:x.nodes[i]?=some nd):nd=c2q∨(∃v,nd=a99 (v%x.n))∨GateOk ((x.nodes.map Nd.kind).take i) nd:=by
 unfold CX.nodes at h;by_cases h1:i<x.k
 ·rw[List.append_assoc,List.getElem?_append_left (by simpa using h1),List.getElem?_replicate,if_pos h1]at h;exact .inl (Option.some.inj h).symm
 rw[List.append_assoc,List.getElem?_append_right (by simpa using h1),List.length_replicate]at h;by_cases h2:i-x.k<x.d
 ·rw[List.getElem?_append_left (by rw[x.dn_len];exact h2)]at h;unfold CX.dn at h;rw[List.getElem?_map]at h;cases hv:([x.d0,x.d1].take x.d)[i-x.k]? with
  |none=>rw[hv]at h;cases h
  |some v=>rw[hv]at h;exact .inr (.inl ⟨v,(Option.some.inj h).symm⟩)
 ·rw[List.getElem?_append_right (by rw[x.dn_len];omega),x.dn_len]at h;obtain⟨g,hg⟩:=d82 _ _ _ _ _ h;refine .inr (.inr ?_);have e:(x.nodes.map Nd.kind).take i=x.base++((gN x.bus x.base x.gs).take (i-x.k-x.d)).map Nd.kind:=by
   rw[x.kinds,List.take_append,List.take_of_length_le (by rw[x.base_len];omega),x.base_len,List.map_take]
   congr 2;omega
  rw[e,hg];exact d0y _ _ _ (by
   rw[List.length_append,x.base_len];have:0<x.k:=by unfold CX.k;omega
   omega)
theorem CX.wf(x:CX):x.cir.wf:=by
 have hn:=x.nodes_len;have hk:x.k≤4∧0<x.k:=by unfold CX.k;omega
 have hd:x.d<3:=Nat.mod_lt _ (by omega);have hg:x.gs.length≤8:=by unfold CX.gs;rw[List.length_take];omega
 have dU:x.n=x.k+x.d+x.gs.length:=rfl;have key:∀nd∈x.nodes,∃i,x.nodes[i]?=some nd∧i<x.n:=by intro nd h;obtain⟨i,hi⟩:=List.mem_iff_getElem?.1 h;exact⟨i,hi,by rw[←hn];exact(List.getElem?_eq_some_iff.1 hi).1⟩
 have hl:∀i,i<x.n→((x.nodes.map Nd.kind).take i).length=i:=λi hi=>by rw[List.length_take,List.length_map,hn];omega
 have gK:∀nd∈x.nodes,nd=c2q∨(∃v,nd=a99 (v%x.n))∨∃i,i<x.n∧GateOk ((x.nodes.map Nd.kind).take i) nd:=by
  intro nd h;obtain⟨i,hi,ag⟩:=key nd h;rcases x.node_cases hi with h|h|h
  ·exact .inl h
  ·exact .inr (.inl h)
  ·exact .inr (.inr ⟨i,ag,h⟩)
 refine⟨by show 0<x.nodes.length;omega,by show x.nodes.length≤14;omega,by show x.names=_;rw[show x.cir.nodes=x.nodes from rfl,hn];rfl,?_,?_,?_,?_,?_,?_,?_,?_,?_⟩
 ·intro nd h;rcases gK nd h with rfl|⟨v,rfl⟩|⟨i,hi,h⟩
  ·decide
  ·exact Nat.le_refl 14
  ·have:=h.k13;omega
 ·intro nd h;rcases gK nd h with rfl|⟨v,rfl⟩|⟨i,hi,h⟩
  ·decide
  ·exact Nat.le_refl 1
  ·exact h.lo
 ·intro nd h;rcases gK nd h with rfl|⟨v,rfl⟩|⟨i,hi,h⟩
  ·decide
  ·exact Nat.le_refl 1
  ·exact h.hi
 ·intro nd h m hm;show m<x.nodes.length;rw[hn];rcases gK nd h with rfl|⟨v,rfl⟩|⟨i,hi,h⟩
  ·simp[c2q]at hm
  ·simp only[a99,List.mem_cons,List.not_mem_nil,or_false]at hm;subst hm;exact Nat.mod_lt _ (by omega)
  ·have:=h.ins m hm;rw[hl i hi]at this;omega
 ·intro nd h h13 m hm;rcases gK nd h with rfl|⟨v,rfl⟩|⟨i,hi,h⟩
  ·simp[c2q]at hm
  ·simp[a99]at h13
  ·have h1:=h.bus h13 m hm;have h2:=h.ins m hm;rw[hl i hi]at h2;rw[List.getElem?_take,if_pos h2,List.getElem?_map]at h1;show a0l x.nodes m=12;unfold a0l;rw[h1];rfl
 ·intro nd h;rcases gK nd h with rfl|⟨v,rfl⟩|⟨i,hi,h⟩
  ·exact⟨rfl,rfl⟩
  ·exact⟨rfl,rfl⟩
  ·exact h.mem
 ·intro i nd h hc m hm;have ag:i<x.n:=by rw[←hn];exact(List.getElem?_eq_some_iff.1 h).1
  rcases x.node_cases h with rfl|⟨v,rfl⟩|h
  ·simp[c2q]at hm
  ·simp[a99,a1l]at hc
  ·have:=h.ins m hm;rw[hl i ag]at this;exact this
 ·intro o ho;show o<x.nodes.length;rw[hn];have ho:o∈x.outN:=ho;unfold CX.outN at ho;simp only[List.mem_append,List.mem_map,List.mem_cons,List.not_mem_nil,or_false]at ho;rcases ho with ⟨a,_,rfl⟩|rfl
  ·exact Nat.mod_lt _ (by omega)
  ·omega
 ·show x.outN.length≤4;unfold CX.outN;simp;omega
end Go.Pc
/- PcFan: which pins read a net. Plain. -/
namespace Go.Pc
open Go.Ax
def a80(l:Nat×Nat):List AV:=[.int .i64 l.1,.int .i64 l.2]
def cnt(L:List (Nat×Nat))(a:Nat):Nat:=(L.map (·.1)).count a
structure FoOk(nodes:List Nd)(i k:Nat)(fo:List (List (Nat×Nat))):Prop where
 len:fo.length=nodes.length
 num:∀(j:Nat) (L:List (Nat×Nat)),fo[j]?=some L→∀a,cnt L a=if a<i then(a1y nodes a).count j else if a=i then((a1y nodes i).take k).count j else 0
theorem FoOk.zero(nodes:List Nd):FoOk nodes 0 0 (List.replicate nodes.length []):=by
 refine⟨by simp,λj L h a=>?_⟩;rw[List.getElem?_replicate]at h;split at h
 ·cases h;simp[Pc.cnt]
 ·cases h
theorem FoOk.step{nodes:List Nd}{i k m:Nat}{fo:List (List (Nat×Nat))}{L:List (Nat×Nat)}(h:FoOk nodes i k fo)(hm:(a1y nodes i)[k]?=some m)(hL:fo[m]?=some L):FoOk nodes i (k+1) (fo.set m (L++[(i,k)])):=by
 refine⟨by rw[List.length_set,h.len],λj L' hj a=>?_⟩;have ht:=a1d hm;rw[List.getElem?_set]at hj;have cJ:m<fo.length:=(List.getElem?_eq_some_iff.1 hL).1;by_cases pU:m=j
 ·subst pU;simp only[if_true,cJ,Option.some.injEq]at hj;subst hj;have:=h.num m L hL a;have e:Pc.cnt (L++[(i,k)]) a=Pc.cnt L a+if i=a then 1 else 0:=by
   unfold Pc.cnt;rw[List.map_append,List.count_append];by_cases jC:i=a
   ·subst jC;simp
   ·simp[jC,List.count_cons]
  rw[e,this,ht];by_cases h1:a<i
  ·simp[h1];omega
  ·by_cases h2:a=i
   ·subst h2;simp
   ·simp[h1,h2];omega
 ·rw[if_neg pU]at hj;have:=h.num j L' hj a;rw[this,ht];by_cases h1:a<i
  ·simp[h1]
  ·by_cases h2:a=i
   ·subst h2;simp[List.count_append,List.count_cons,pU]
   ·simp[h1,h2]
theorem FoOk.next{nodes:List Nd}{i k:Nat}{fo:List (List (Nat×Nat))}(h:FoOk nodes i k fo)(hk:k=(a1y nodes i).length):FoOk nodes (i+1) 0 fo:=by
 refine⟨h.len,λj L hj a=>?_⟩;rw[h.num j L hj a];subst hk;rw[List.take_length];by_cases h1:a<i
 ·simp[h1,show a<i+1 by omega]
 ·by_cases h2:a=i
  ·subst h2;simp
  ·simp[h1,h2,show ¬a<i+1 by omega]
theorem a1o{nodes:List Nd}{i:Nat}{x:Nd}(h:nodes[i]?=some x):a1y nodes i=x.ins:=by simp[a1y,h]
theorem d04(n:Nat):∀(L:List (Nat×Nat)),(∀l∈L,l.1<n)→L.length=((List.range n).map λa=>cnt L a).sum
 | [],_=>by
  have:∀l:List Nat,(l.map λa=>cnt [] a).sum=0:=by intro l;induction l with|nil=>rfl|cons a l ih=>rw[List.map_cons,List.sum_cons,ih];rfl
  rw[this];rfl
 |x::L,h=>by
  have ih:=d04 n L (λl hl=>h l (by simp[hl]));have hx:=h x (by simp);have e:∀a,cnt (x::L) a=cnt L a+if x.1=a then 1 else 0:=λa=>by unfold cnt;rw[List.map_cons,List.count_cons];simp[beq_iff_eq]
  have s:∀(l:List Nat),l.Nodup→(l.map λa=>cnt (x::L) a).sum=(l.map λa=>cnt L a).sum+if x.1∈l then 1 else 0:=by
   intro l
   induction l with
   |nil=>intro _;rfl
   |cons a l ih2=>
    intro hn;rw[List.nodup_cons]at hn;simp only[List.map_cons,List.sum_cons,e a,ih2 hn.2,List.mem_cons];by_cases h1:x.1=a
    ·subst h1;simp[hn.1];omega
    ·simp[h1];omega
  rw[s _ List.nodup_range,if_pos (by simpa using hx),List.length_cons,ih]
theorem FoOk.node{nodes:List Nd}{i k j:Nat}{fo:List (List (Nat×Nat))}{L:List (Nat×Nat)}(h:FoOk nodes i k fo)(hL:fo[j]?=some L)(hi:i≤nodes.length):∀l∈L,l.1<nodes.length:=by
 intro l hl;have hc:=h.num j L hL l.1;have hp:0<cnt L l.1:=by unfold cnt;exact List.count_pos_iff.2 (List.mem_map.2 ⟨l,hl,rfl⟩)
 by_cases h1:l.1<i
 ·omega
 ·rw[if_neg h1]at hc;by_cases h2:l.1=i
  ·rw[if_pos h2]at hc;cases hx:nodes[i]? with
   |none=>simp[a1y,hx]at hc;omega
   |some x=>have:=(List.getElem?_eq_some_iff.1 hx).1;omega
  ·rw[if_neg h2]at hc;omega
theorem FoOk.total{nodes:List Nd}{i k j:Nat}{fo:List (List (Nat×Nat))}{L:List (Nat×Nat)}(h:FoOk nodes i k fo)(hL:fo[j]?=some L)(hn:nodes.length≤14)(hx:∀y∈nodes,y.ins.length≤16)(hi:i≤nodes.length:=by omega):L.length≤224:=by
 have hb:∀a,cnt L a≤16:=by
  intro a;have lj:(a1y nodes a).length≤16:=by
   unfold a1y;cases fU:nodes[a]? with
   |none=>simp
   |some x=>exact hx x (List.mem_of_getElem? fU)
  rw[h.num j L hL a];split
  ·exact Nat.le_trans List.count_le_length lj
  split
  ·rename_i e;subst e;refine Nat.le_trans List.count_le_length ?_;rw[List.length_take];omega
  ·omega
 rw[d04 nodes.length L (h.node hL hi)];have s:∀l:List Nat,(l.map λa=>cnt L a).sum≤16*l.length:=by
  intro l
  induction l with
  |nil=>simp
  |cons a l ih=>have:=hb a;simp only[List.map_cons,List.sum_cons,List.length_cons];omega
 have:=s (List.range nodes.length);rw[List.length_range]at this;omega
theorem Cir.wf.insl{c:Cir}(h:c.wf){x:Nd}(hx:x∈c.nodes):x.ins.length≤16:=by
 have k14:=h.kind x hx;have mf:=h.hi x hx;have:a26 x.kind≤16:=by
  have hk:x.kind=0∨x.kind=1∨x.kind=2∨x.kind=3∨x.kind=4∨x.kind=5∨x.kind=6∨x.kind=7∨x.kind=8∨x.kind=9∨x.kind=10∨x.kind=11∨x.kind=12∨x.kind=13∨x.kind=14:=by omega
  rcases hk with e|e|e|e|e|e|e|e|e|e|e|e|e|e|e<;>rw[e]<;>decide
 omega
end Go.Pc
/- PcKahn: the order in which nodes become ready. Plain. -/
namespace Go.Pc
open Go.Ax
def b94(nodes:List Nd)(ready:List Nat)(done a:Nat):Nat:=((a1y nodes a).filter λm=>decide (m∉ready.take done)).length
structure Kahn(nodes:List Nd)(left ready:List Nat)(done:Nat)(L:List (Nat×Nat)):Prop where
 ll:left.length=nodes.length
 rn:∀r∈ready,r<nodes.length
 nd:ready.Nodup
 dle:done≤ready.length
 eq:∀a,a<nodes.length→a1l (a0l nodes a)=true→left.getD a 0+cnt L a=b94 nodes ready done a
 nc:∀a,a<nodes.length→a1l (a0l nodes a)=false→left.getD a 0=0
 zero:∀a,a<nodes.length→(a∈ready↔left.getD a 0=0)
def a9n(nodes:List Nd)(a:Nat):Nat:=if a1l (a0l nodes a)then(a1y nodes a).length else 0
def a3a(nodes:List Nd)(i:Nat):List Nat:=(List.range nodes.length).map λj=>if j<i then a9n nodes j else 0
def a3z(nodes:List Nd)(i:Nat):List Nat:=(List.range i).filter λj=>decide (a9n nodes j=0)
theorem b9r(nodes:List Nd)(i:Nat):a3z nodes (i+1)=if a9n nodes i=0 then a3z nodes i++[i]else a3z nodes i:=by unfold a3z;rw[List.range_succ,List.filter_append];by_cases h:a9n nodes i=0<;>simp[h]
theorem c5x(nodes:List Nd)(i:Nat):(a3z nodes i).length≤i:=Nat.le_trans (List.length_filter_le _ _) (by simp)
theorem c2k(nodes:List Nd):a3a nodes 0=List.replicate nodes.length 0:=by
 apply List.ext_getElem?;intro j;simp only[a3a,List.getElem?_map,List.getElem?_replicate,Nat.not_lt_zero,if_false];by_cases h:j<nodes.length
 ·rw[List.getElem?_range h];simp[h]
 ·rw[List.getElem?_eq_none (by simpa using h)];simp[h]
theorem a5h{nodes:List Nd}{i j:Nat}(h:j<nodes.length):(a3a nodes i)[j]?=some (if j<i then a9n nodes j else 0):=by simp[a3a,List.getElem?_range h]
theorem b3n{nodes:List Nd}{i:Nat}(h:i<nodes.length):(a3a nodes i).set i (a9n nodes i)=a3a nodes (i+1):=by
 apply List.ext_getElem?;intro j;rw[List.getElem?_set];by_cases hj:j<nodes.length
 ·rw[a5h hj,a5h hj];by_cases bB:i=j
  ·subst bB;simp[a3a,h]
  ·by_cases h2:j<i
   ·simp[bB,h2,show j<i+1 by omega]
   ·simp[bB,h2,show ¬j<i+1 by omega]
 ·have e:∀i,(a3a nodes i)[j]?=none:=λi=>List.getElem?_eq_none (by simp[a3a];omega);rw[e,e];have:i≠j:=by omega
  simp[this]
theorem c2l{nodes:List Nd}{i:Nat}(h:i<nodes.length)(h0:a9n nodes i=0):a3a nodes i=a3a nodes (i+1):=by
 rw[←b3n h];apply List.ext_getElem?;intro j;rw[List.getElem?_set];by_cases bB:i=j
 ·subst bB;rw[a5h h];simp[a3a,h,h0]
 ·simp[bB]
theorem Kahn.start(nodes:List Nd):Kahn nodes (a3a nodes nodes.length) (a3z nodes nodes.length) 0 []:=by
 have hg:∀a,a<nodes.length→(a3a nodes nodes.length).getD a 0=a9n nodes a:=by intro a ha;rw[List.getD,a5h ha];simp[ha]
 refine⟨by simp[a3a],?_,?_,Nat.zero_le _,?_,?_,?_⟩
 ·intro r hr;unfold a3z at hr;rw[List.mem_filter]at hr;simpa using hr.1
 ·exact List.nodup_range.filter _
 ·intro a ha hc;rw[hg a ha];have e:∀l:List Nat,(l.filter λm=>decide (m∉([]:List Nat)))=l:=λl=>List.filter_eq_self.2 (λm _=>by simp);simp only[a9n,hc,if_true,b94,cnt,List.map_nil,List.count_nil,List.take_zero,Nat.add_zero];exact(congrArg List.length (e _)).symm
 ·intro a ha hc;rw[hg a ha];simp[a9n,hc]
 ·intro a ha;rw[hg a ha];unfold a3z;rw[List.mem_filter];simp[ha]
section
variable {nodes:List Nd}{left ready:List Nat}{done:Nat}{L:List (Nat×Nat)}
theorem b8m(L:List (Nat×Nat))(a p b:Nat):cnt (L++[(a,p)]) b=cnt L b+if a=b then 1 else 0:=by
 unfold cnt;rw[List.map_append,List.count_append];by_cases jC:a=b
 ·subst jC;simp
 ·simp[jC,List.count_cons]
theorem Kahn.skip(h:Kahn nodes left ready done L){a p:Nat}(hc:a1l (a0l nodes a)=false):Kahn nodes left ready done (L++[(a,p)]):=by
 refine⟨h.ll,h.rn,h.nd,h.dle,?_,h.nc,h.zero⟩;intro b hb bV;have:a≠b:=λe=>by subst e;rw[hc]at bV;cases bV
 rw[b8m,if_neg this,Nat.add_zero];exact h.eq b hb bV
theorem d3z{ready:List Nat}{done x a:Nat}(h:done≤ready.length):b94 nodes (ready++[x]) done a=b94 nodes ready done a:=by unfold b94;rw[List.take_append_of_le_length h]
theorem Kahn.pos(h:Kahn nodes left ready done L){a p:Nat}(ha:a<nodes.length)(hc:a1l (a0l nodes a)=true)(iW:cnt (L++[(a,p)]) a≤b94 nodes ready done a):0<left.getD a 0:=by have:=h.eq a ha hc;rw[b8m,if_pos rfl]at iW;omega
theorem Kahn.dec(h:Kahn nodes left ready done L){a p:Nat}(ha:a<nodes.length)(hc:a1l (a0l nodes a)=true)(iW:cnt (L++[(a,p)]) a≤b94 nodes ready done a) :
 Kahn nodes (left.set a (left.getD a 0-1)) (if left.getD a 0-1=0 then ready++[a]else ready) done (L++[(a,p)]):=by
 have fm:=h.pos ha hc iW;have eE:a<left.length:=by rw[h.ll];exact ha
 have aG:∀b,(left.set a (left.getD a 0-1)).getD b 0=if a=b then left.getD a 0-1 else left.getD b 0:=by
  intro b;simp only[List.getD_eq_getElem?_getD,List.getElem?_set];by_cases aX:a=b
  ·subst aX;simp[eE]
  ·simp[aX]
 have iE:a∉ready:=λhm=>by have:=(h.zero a ha).1 hm;omega
 have dK:∀b,b94 nodes (if left.getD a 0-1=0 then ready++[a]else ready) done b=b94 nodes ready done b:=by
  intro b;split
  ·exact d3z h.dle
  ·rfl
 refine⟨by rw[List.length_set,h.ll],?_,?_,?_,?_,?_,?_⟩
 ·intro r hr;split at hr
  ·simp only[List.mem_append,List.mem_singleton]at hr;rcases hr with hr|rfl
   ·exact h.rn r hr
   ·exact ha
  ·exact h.rn r hr
 ·split
  ·rw[List.nodup_append];refine⟨h.nd,by simp,?_⟩;intro x hx y hy;simp only[List.mem_singleton]at hy;subst hy;exact λe=>iE (e▸hx)
  ·exact h.nd
 ·split
  ·have:=h.dle;simp;omega
  ·exact h.dle
 ·intro b hb bV;rw[aG,dK,b8m];have:=h.eq b hb bV;by_cases aX:a=b
  ·subst aX;rw[if_pos rfl,if_pos rfl];omega
  ·rw[if_neg aX,if_neg aX,Nat.add_zero];exact this
 ·intro b hb bV;have:a≠b:=λe=>by subst e;rw[hc]at bV;cases bV
  rw[aG,if_neg this];exact h.nc b hb bV
 ·intro b hb;rw[aG];by_cases aX:a=b
  ·subst aX;rw[if_pos rfl];split
   ·rename_i e;exact⟨λ_=>e,λ_=>by simp⟩
   ·rename_i e;exact⟨λhm=>absurd hm iE,λe'=>absurd e' e⟩
  ·rw[if_neg aX];rw[←h.zero b hb];split
   ·simp[Ne.symm aX]
   ·rfl
theorem a63(l:List Nat)(S:List Nat)(x:Nat)(hx:x∉S):(l.filter λm=>decide (m∉S)).length=(l.filter λm=>decide (m∉S++[x])).length+l.count x:=by
 induction l with
 |nil=>rfl
 |cons a l ih=>
  simp only[List.filter_cons,List.count_cons];by_cases nT:a=x
  ·subst nT;simp[hx]at ih⊢;omega
  ·by_cases so:a∈S
   ·simp[so,nT]at ih⊢;omega
   ·simp[so,nT]at ih⊢;omega
theorem Kahn.next(h:Kahn nodes left ready done L){x:Nat}(hx:ready[done]?=some x)(hL:∀a,a<nodes.length→cnt L a=(a1y nodes a).count x):Kahn nodes left ready (done+1) []:=by
 have gA:=(List.getElem?_eq_some_iff.1 hx).1;have ht:=a1d hx;have fN:x∉ready.take done:=by
  intro hm;obtain⟨i,hi⟩:=List.mem_iff_getElem?.1 hm;rw[List.getElem?_take]at hi;split at hi
  case isFalse=>cases hi
  have:=(List.getElem?_inj (by omega) h.nd).1 (hi.trans hx.symm);omega
 refine⟨h.ll,h.rn,h.nd,by omega,?_,h.nc,h.zero⟩;intro a ha hc;have:=h.eq a ha hc;rw[hL a ha]at this;unfold b94 at this⊢;rw[ht];rw[a63 _ _ x fN]at this;simp only[cnt,List.map_nil,List.count_nil];omega
theorem d9t{ready:List Nat}{done x a:Nat}(nd:ready.Nodup)(hx:ready[done]?=some x):(a1y nodes a).count x≤b94 nodes ready done a:=by
 have gA:=(List.getElem?_eq_some_iff.1 hx).1;have fN:x∉ready.take done:=by
  intro hm;obtain⟨i,hi⟩:=List.mem_iff_getElem?.1 hm;rw[List.getElem?_take]at hi;split at hi
  case isFalse=>cases hi
  have:=(List.getElem?_inj (by omega) nd).1 (hi.trans hx.symm);omega
 unfold b94;rw[a63 _ _ x fN];omega
theorem Kahn.all(h:Kahn nodes left ready ready.length [])(sn:∀(i:Nat) (x:Nd),nodes[i]?=some x→a1l x.kind=true→∀m∈x.ins,m<i):nodes.length≤ready.length:=by
 have key:∀n a,a≤n→a<nodes.length→a∈ready:=by
  intro n
  induction n with
  |zero=>
   intro a i3 ha;obtain rfl:a=0:=by omega
   rw[h.zero 0 ha];cases hc:a1l (a0l nodes 0)with
   |false=>exact h.nc 0 ha hc
   |true=>
    obtain⟨x,hx⟩:∃x,nodes[0]?=some x:=⟨_,List.getElem?_eq_getElem ha⟩
    have he:=h.eq 0 ha hc;have hk:a0l nodes 0=x.kind:=by simp[a0l,hx]
    rw[hk]at hc;have hi:a1y nodes 0=[]:=by
     simp only[a1y,hx,Option.map_some,Option.getD_some];cases lj:x.ins with
     |nil=>rfl
     |cons m r=>have:=sn 0 x hx hc m (by simp[lj]);omega
    have:b94 nodes ready ready.length 0=0:=by simp[b94,hi]
    omega
  |succ n ih=>
   intro a i3 ha;rw[h.zero a ha];cases hc:a1l (a0l nodes a)with
   |false=>exact h.nc a ha hc
   |true=>
    obtain⟨x,hx⟩:∃x,nodes[a]?=some x:=⟨_,List.getElem?_eq_getElem ha⟩
    have he:=h.eq a ha hc;have hk:a0l nodes a=x.kind:=by simp[a0l,hx]
    rw[hk]at hc;have hi:a1y nodes a=x.ins:=a1o hx;have:b94 nodes ready ready.length a=0:=by unfold b94;rw[hi,List.take_length,List.length_eq_zero_iff,List.filter_eq_nil_iff];intro m hm;have h1:=sn a x hx hc m hm;have h2:=ih m (by omega) (by omega);simp[h2]
    omega
 have:=b3m (l:=List.range nodes.length) (T:=ready) List.nodup_range (λa ha=>key a a (Nat.le_refl _) (by simpa using ha));simpa using this
theorem Kahn.bound(h:Kahn nodes left ready done L):ready.length≤nodes.length:=by have:=b3m h.nd (T:=List.range nodes.length) (λa ha=>by simpa using h.rn a ha);simpa using this
end
end Go.Pc
/- PcPerm: exchanging neighbours. Plain. -/
namespace Go.Pc
theorem c84{l:List Nat}{j x y:Nat}(hj:l[j+1]?=some x)(hi:l[j]?=some y):((l.set (j+1) y).set j x).Perm l:=by
 induction l generalizing j with
 |nil=>simp at hj
 |cons a l ih=>
  cases j with
  |zero=>
   cases l with
   |nil=>simp at hj
   |cons b l=>simp only[List.getElem?_cons_succ,List.getElem?_cons_zero,Option.some.injEq]at hj hi;subst hj;subst hi;exact List.Perm.swap ..
  |succ j=>simp only[List.getElem?_cons_succ]at hj hi;simp only[List.set_cons_succ];exact(ih hj hi).cons a
def d89(a b:Nat):Int:=if a<b then -1 else if b<a then 1 else 0
end Go.Pc
/- PcReach: which nets a net depends on; faults that are valid. Plain. -/
namespace Go.Pc
open Go.Ax
inductive DepOn(nodes:List Nd):Nat→Nat→Prop
 |refl (a:Nat):DepOn nodes a a
 |step {a m b:Nat} (hk:a0l nodes a≠14) (hm:m∈a1y nodes a) (h:DepOn nodes m b):DepOn nodes a b
theorem DepOn.cases{nodes:List Nd}{a b:Nat}(h:DepOn nodes a b):a=b∨(a0l nodes a≠14∧∃m,m∈a1y nodes a∧DepOn nodes m b):=by
 cases h with
 |refl=>exact .inl rfl
 |step hk hm h=>exact .inr ⟨hk,_,hm,h⟩
theorem DepOn.not_dff{nodes:List Nd}{a b:Nat}(aX:a≠b)(hk:a0l nodes a=14):¬DepOn nodes a b:=λh=>by
 rcases h.cases with e|⟨h1,_⟩
 ·exact aX e
 ·exact h1 hk
theorem DepOn.snoc{nodes:List Nd}{a b m:Nat}(h:DepOn nodes a b)(hk:a0l nodes b≠14)(hm:m∈a1y nodes b):DepOn nodes a m:=by
 induction h with
 |refl a=>exact .step hk hm (.refl _)
 |step gP aV _ ih=>exact .step gP aV (ih hk hm)
theorem Cir.wf.comb_of{c:Cir}(h:c.wf){x:Nd}(hx:x∈c.nodes)(hp:0<x.ins.length)(h14:x.kind≠14):a1l x.kind=true:=by
 have h1:=h.kind x hx;have h2:=h.hi x hx;have h3:x.kind≠0:=by intro e;rw[e]at h2;have:a26 0=0:=rfl;omega
 simp[a1l];omega
structure FltOk(nodes:List Nd)(f:Flt):Prop where
 model:f.model=0∨f.model=2∨f.model=3
 node:f.node<nodes.length
 pin:-1≤f.pin∧f.pin<(a1y nodes f.node).length
 value:f.value≤1
 other:f.other<nodes.length
 stuck:f.model=0→f.other=0
 bridge:f.model≠0→f.pin = -1∧f.node≠f.other∧(f.model=2→f.node≤f.other)∧(f.model=3→f.value=0)∧a0l nodes f.node≠12∧a0l nodes f.other≠12∧¬DepOn nodes f.node f.other∧¬DepOn nodes f.other f.node
end Go.Pc
/- PcRun: the simulation, step by step. Plain. -/
namespace Go.Pc
open Go.Ax
section
variable {α:Type}{A:Alg α}{nodes:List Nd}{h:Hk α}
theorem c94{n:Nat}{nets:List α}:∀{l:List Nat} {p i m:Nat},l[i]?=some m→(a2j A h n nets p l)[i]?=some (h.pin n (p+i) (nets.getD m A.z))
 | [],p,i,m,hm=>by simp at hm
 |a::l,p,0,m,hm=>by simp at hm;subst hm;rfl
 |a::l,p,i+1,m,hm=>by simp only[List.getElem?_cons_succ]at hm;simp only[a2j,List.getElem?_cons_succ,c94 (p:=p+1) hm];rw[show p+1+i=p+(i+1) by omega]
theorem c93{n:Nat}{nets:List α}:∀(l:List Nat) (p:Nat),(a2j A h n nets p l).length=l.length
 | [],_=>rfl
 |a::l,p=>by simp[a2j,c93 l]
theorem a6j{nets:List α}{n:Nat}:(a11 A nodes h nets n).length=(a1y nodes n).length:=c93 _ _
theorem b5u{nets:List α}{n i m:Nat}{v:α}(hm:(a1y nodes n)[i]?=some m)(hv:nets[m]?=some v):(a11 A nodes h nets n).take (i+1)=(a11 A nodes h nets n).take i++[h.pin n i v]:=by have:=c94 (A:=A) (h:=h) (n:=n) (nets:=nets) (p:=0) hm;rw[Nat.zero_add,List.getD,hv]at this;exact a1d this
theorem b6d:∀{is:List Nat} {vs:List α} {nets:List α} {a:Nat} {v:α},is.length=vs.length→a1f nets (is++[a]) (vs++[v])=(a1f nets is vs).set a v
 | [],[],nets,a,v,_=>rfl
 | [],_::_,_,_,_,h=>by simp at h
 |_::_,[],_,_,_,h=>by simp at h
 |i::is,w::vs,nets,a,v,h=>by simp only[List.cons_append,a1f];exact b6d (by simpa using h)
theorem a2v:∀(is:List Nat) (vs:List α) (nets:List α),(a1f nets is vs).length=nets.length
 | [],vs,nets=>by cases vs<;>rfl
 |i::is,[],nets=>rfl
 |i::is,v::vs,nets=>by simp[a1f,a2v is vs]
theorem a8l{is:List Nat}{vs nets:List α}{i a:Nat}{v:α}(h1:is[i]?=some a)(h2:vs[i]?=some v):a1f nets (is.take (i+1)) (vs.take (i+1))=(a1f nets (is.take i) (vs.take i)).set a v:=by rw[a1d h1,a1d h2];have l1:=(List.getElem?_eq_some_iff.1 h1).1;have l2:=(List.getElem?_eq_some_iff.1 h2).1;exact b6d (by rw[List.length_take,List.length_take];omega)
theorem b9g(nets:List α)(n:Nat):(stepG A nodes h nets n).length=nets.length:=by unfold stepG;simp
theorem a9v(l:List Nat)(nets:List α):(l.foldl (stepG A nodes h) nets).length=nets.length:=by
 induction l generalizing nets with
 |nil=>rfl
 |cons a l ih=>rw[List.foldl_cons,ih,b9g]
theorem b38(ord ins sts:List Nat)(vi vs:List α):(a9m A nodes h ord ins sts vi vs).length=nodes.length:=by unfold a9m;rw[a9v,a2v,a2v];simp
theorem c0p{l:List Nat}{nets:List α}{i n:Nat}(hn:l[i]?=some n):(l.take (i+1)).foldl (stepG A nodes h) nets=stepG A nodes h ((l.take i).foldl (stepG A nodes h) nets) n:=by rw[a1d hn,List.foldl_append];rfl
end
end Go.Pc
/- PcLev: levels of nodes; orders in which a48 node stands behind what it d3x. Plain. -/
namespace Go.Pc
open Go.Ax
structure Lev(nodes:List Nd)(lv ready:List Nat)(done:Nat)(L:List (Nat×Nat)):Prop where
 old:∀a,a<nodes.length→a1l (a0l nodes a)=true→∀m∈a1y nodes a,m∈ready.take done→lv.getD m 0<lv.getD a 0
 now:∀l∈L,a1l (a0l nodes l.1)=true→∀x,ready[done]?=some x→lv.getD x 0<lv.getD l.1 0
theorem Lev.start(nodes:List Nd)(lv ready:List Nat):Lev nodes lv ready 0 []:=⟨λa _ _ m _ hm=>by simp at hm,λl hl=>by simp at hl⟩
section
variable {nodes:List Nd}{lv left ready:List Nat}{done:Nat}{L:List (Nat×Nat)}
theorem Lev.skip(h:Lev nodes lv ready done L){a p:Nat}(hc:a1l (a0l nodes a)=false):Lev nodes lv ready done (L++[(a,p)]):=by
 refine⟨h.old,λl hl bL=>?_⟩;rcases List.mem_append.1 hl with hl|hl
 ·exact h.now l hl bL
 ·rw[List.mem_singleton.1 hl]at bL;rw[hc]at bL;cases bL
theorem b2b(lv:List Nat)(a v b:Nat)(ha:a<lv.length):(lv.set a v).getD b 0=if a=b then v else lv.getD b 0:=by
 simp only[List.getD_eq_getElem?_getD,List.getElem?_set];by_cases aX:a=b
 ·subst aX;simp[ha]
 ·simp[aX]
theorem Lev.dec(h:Lev nodes lv ready done L){a p x va vx:Nat}(hx:ready[done]?=some x)(iE:a∉ready)(fJ:lv[a]?=some va)(ja:lv[x]?=some vx){d9:List Nat}(hr:d9=ready∨d9=ready++[a]) :
 Lev nodes (lv.set a (max va (vx+1))) d9 done (L++[(a,p)]):=by
 have eE:=(List.getElem?_eq_some_iff.1 fJ).1;have gA:=(List.getElem?_eq_some_iff.1 hx).1;have sZ:x∈ready:=List.mem_of_getElem? hx;have nT:a≠x:=λe=>iE (e▸sZ);have ea:lv.getD a 0=va:=by rw[List.getD,fJ];rfl
 have ex:lv.getD x 0=vx:=by rw[List.getD,ja];rfl
 have ht:d9.take done=ready.take done:=by
  rcases hr with rfl|rfl
  ·rfl
  ·exact List.take_append_of_le_length (by omega)
 have fU:d9[done]?=some x:=by
  rcases hr with rfl|rfl
  ·exact hx
  ·rw[List.getElem?_append_left gA];exact hx
 have up:∀b,lv.getD b 0≤(lv.set a (max va (vx+1))).getD b 0:=by
  intro b;rw[b2b _ _ _ _ eE];split
  ·rename_i e;subst e;rw[ea];exact Nat.le_max_left _ _
  ·exact Nat.le_refl _
 refine⟨?_,?_⟩
 ·intro b hb bV m hm dF;rw[ht]at dF;have pV:a≠m:=λe=>iE (e▸List.mem_of_mem_take dF);rw[b2b _ _ _ m eE,if_neg pV];exact Nat.lt_of_lt_of_le (h.old b hb bV m hm dF) (up b)
 ·intro l hl bL y hy;rw[fU]at hy;cases hy;rw[b2b _ _ _ x eE,if_neg nT];rcases List.mem_append.1 hl with hl|hl
  ·exact Nat.lt_of_lt_of_le (h.now l hl bL x hx) (up _)
  ·rw[List.mem_singleton.1 hl,b2b _ _ _ _ eE,if_pos rfl,ex];exact Nat.lt_of_lt_of_le (Nat.lt_succ_self _) (Nat.le_max_right _ _)
theorem Lev.next(h:Lev nodes lv ready done L){x:Nat}(hx:ready[done]?=some x)(hL:∀a,a<nodes.length→cnt L a=(a1y nodes a).count x):Lev nodes lv ready (done+1) []:=by
 refine⟨?_,λl hl=>by simp at hl⟩;intro a ha hc m hm dF;rw[a1d hx]at dF;rcases List.mem_append.1 dF with dF|dF
 ·exact h.old a ha hc m hm dF
 ·rw[List.mem_singleton.1 dF]at hm⊢;have h1:=hL a ha;have h2:0<(a1y nodes a).count x:=List.count_pos_iff.2 hm;rw[←h1]at h2;unfold Pc.cnt at h2;obtain⟨l,hl,rfl⟩:=List.mem_map.1 (List.count_pos_iff.1 h2);exact h.now l hl hc x hx
def Rises(nodes:List Nd)(lv:List Nat):Prop:=∀a,a<nodes.length→a1l (a0l nodes a)=true→∀m∈a1y nodes a,m<nodes.length→lv.getD m 0<lv.getD a 0
theorem Lev.all(h:Lev nodes lv ready ready.length [])(hk:Kahn nodes left ready ready.length [])(aR:nodes.length≤ready.length):Rises nodes lv:=by
 intro a ha hc m hm dL;refine h.old a ha hc m hm ?_;rw[List.take_length];by_cases dF:m∈ready
 ·exact dF
 ·have hs:=b3m (l:=m::ready) (T:=List.range nodes.length) (List.nodup_cons.2 ⟨dF,hk.nd⟩) (λb hb=>by
   rcases List.mem_cons.1 hb with rfl|hb
   ·simpa using dL
   ·simpa using hk.rn b hb)
  simp at hs;omega
end
def e3l(nodes:List Nd)(ord:List Nat):Prop:=∀(i n:Nat),ord[i]?=some n→a1l (a0l nodes n)=true→∀m∈a1y nodes n,m∈ord.take i
theorem Rises.topo{nodes:List Nd}{lv ord:List Nat}(h:Rises nodes lv)(hp:ord.Perm (List.range nodes.length))(hs:ord.Pairwise λx y=>lv.getD x 0≤lv.getD y 0)(dG:∀n,n<nodes.length→∀m∈a1y nodes n,m<nodes.length):e3l nodes ord:=by
 intro i n hi hc m hm;have hn:n<nodes.length:=by have:=hp.mem_iff.1 (List.mem_of_getElem? hi);simpa using this
 have dL:=dG n hn m hm;obtain⟨j,hj⟩:=List.mem_iff_getElem?.1 (hp.mem_iff.2 (List.mem_range.2 dL));have ag:=h n hn hc m hm dL;have cW:=(List.getElem?_eq_some_iff.1 hi).1;have bu:=(List.getElem?_eq_some_iff.1 hj).1;by_cases gv:j<i
 ·exact List.mem_iff_getElem?.2 ⟨j,by rw[List.getElem?_take,if_pos gv];exact hj⟩
 ·exfalso;by_cases bB:i=j
  ·subst bB;rw[hi]at hj;cases hj;omega
  ·have:=List.pairwise_iff_getElem.1 hs i j cW bu (by omega);rw[(List.getElem?_eq_some_iff.1 hi).2,(List.getElem?_eq_some_iff.1 hj).2]at this;omega
theorem Cir.wf.inAt{c:Cir}(h:c.wf):∀n,n<c.nodes.length→∀m∈a1y c.nodes n,m<c.nodes.length:=by
 intro n hn m hm;obtain⟨x,hx⟩:∃x,c.nodes[n]?=some x:=⟨_,List.getElem?_eq_getElem hn⟩
 rw[a1o hx]at hm;exact h.ins x (List.mem_of_getElem? hx) m hm
/-! ### insertion -/
def SortJ(key:Nat→Nat)(d:List Nat)(i j:Nat):Prop:=∀p q x y,p<q→q≤i→q≠j→d[p]?=some x→d[q]?=some y→key x≤key y
def SortI(key:Nat→Nat)(d:List Nat)(i:Nat):Prop:=∀p q x y,p<q→q<i→d[p]?=some x→d[q]?=some y→key x≤key y
theorem SortI.start{key:Nat→Nat}{d:List Nat}{i:Nat}(h:SortI key d i):SortJ key d i i:=λp q x y h1 h2 h3=>h p q x y h1 (by omega)
theorem SortI.one{key:Nat→Nat}{d:List Nat}:SortI key d 1:=λp q x y h1 h2=>by omega
theorem SortJ.stop{key:Nat→Nat}{d:List Nat}{i j:Nat}(h:SortJ key d i j)(hj:j=0∨∃x y,d[j-1]?=some x∧d[j]?=some y∧key x≤key y):SortI key d (i+1):=by
 intro p q x y h1 h2 hx hy;by_cases hq:q=j
 ·subst hq;rcases hj with rfl|⟨x',y',h3,h4,h5⟩
  ·omega
  ·rw[hy]at h4;cases h4;by_cases hp:p=q-1
   ·subst hp;rw[hx]at h3;cases h3;exact h5
   ·exact Nat.le_trans (h p (q-1) x x' (by omega) (by omega) (by omega) hx h3) h5
 ·exact h p q x y h1 (by omega) hq hx hy
theorem SortJ.swap{key:Nat→Nat}{d:List Nat}{i j:Nat}(h:SortJ key d i (j+1))(gv:j+1≤i){x y:Nat}(hx:d[j]?=some x)(hy:d[j+1]?=some y)(ag:key y<key x):SortJ key ((d.set (j+1) x).set j y) i j:=by
 have bu:=(List.getElem?_eq_some_iff.1 hy).1;have hg:∀p,((d.set (j+1) x).set j y)[p]?=if p=j then some y else if p=j+1 then some x else d[p]?:=by
  intro p;rw[List.getElem?_set,List.getElem?_set];simp only[List.length_set];by_cases h1:j=p
  ·subst h1;simp;omega
  ·by_cases h2:j+1=p
   ·subst h2;simp;omega
   ·simp[h1,h2,Ne.symm h1,Ne.symm h2]
 intro p q u v h1 h2 h3 hu hv;rw[hg]at hu hv;rw[if_neg h3]at hv;by_cases hq:q=j+1
 ·rw[if_pos hq]at hv;cases hv;by_cases hp:p=j
  ·rw[if_pos hp]at hu;cases hu;omega
  ·rw[if_neg hp,if_neg (by omega)]at hu;exact h p j u x (by omega) (by omega) (by omega) hu hx
 ·rw[if_neg hq]at hv;by_cases hp:p=j
  ·rw[if_pos hp]at hu;cases hu;exact h (j+1) q y v (by omega) h2 (by omega) hy hv
  ·rw[if_neg hp]at hu;by_cases cH:p=j+1
   ·rw[if_pos cH]at hu;cases hu;exact h j q x v (by omega) h2 (by omega) hx hv
   ·rw[if_neg cH]at hu;exact h p q u v h1 h2 (by omega) hu hv
theorem SortI.pairwise{key:Nat→Nat}{d:List Nat}(h:SortI key d d.length):d.Pairwise λx y=>key x≤key y:=by rw[List.pairwise_iff_getElem];intro i j hi hj bB;exact h i j _ _ bB hj (List.getElem?_eq_getElem hi) (List.getElem?_eq_getElem hj)
end Go.Pc
/- PcLog: gates over the values 0, 1, X and Z; they are the gates over pairs of bits. Plain. -/
namespace Go.Pc
open Go.Ax
def a40(v:Nat):Nat:=min v 2
def b1i(v:Nat):Nat:=if v≤1 then 1-v else 2
def a5k(low bf:Nat):Nat→List Nat→Nat
 |out,[]=>out
 |out,v::r=>if v=low then low else a5k low bf (if v=bf then out else 2) r
def b2i:Nat→List Nat→Nat
 |out,[]=>out
 |out,v::r=>if v≤1 then b2i (out^^^v) r else 2
def b3a(s a b:Nat):Nat:=if s=0 then a40 a else if s=1 then a40 b else if a=b then a40 a else 2
def b96(e d:Nat):Nat:=if e=0 then 3 else if e=1 then a40 d else 2
def c7o(l:List Nat):Nat:=match l.findIdx? (λv=>decide (v≠3))with
 |none=>3
 |some i=>if(decide (0∈l)&&decide (1∈l))||l.any (λv=>decide (a2n v=2))then 2 else l.getD i 0
def a3m(k:Nat)(l:List Nat):Nat:=match k with
 |1=>0
 |2=>1
 |3=>a40 (l.getD 0 2)
 |4=>b1i (l.getD 0 2)
 |5=>a5k 0 1 1 l
 |6=>b1i (a5k 0 1 1 l)
 |7=>a5k 1 0 0 l
 |8=>b1i (a5k 1 0 0 l)
 |9=>b2i 0 l
 |10=>b1i (b2i 0 l)
 |11=>b3a (l.getD 0 2) (l.getD 1 2) (l.getD 2 2)
 |12=>b96 (l.getD 0 2) (l.getD 1 2)
 |13=>c7o l
 |_=>2
def a41(k:Nat)(l:List Nat):Nat:=if l.length<a25 k∨a26 k<l.length then 2 else a3m k l
def vR(v:Nat):V2:=c1q (a0n v)
theorem c2z(P:Nat→Prop)(h0:P 0)(h1:P 1)(h2:P 2)(h3:P 3){v:Nat}(hv:v≤3):P v:=by
 have:v=0∨v=1∨v=2∨v=3:=by omega
 rcases this with rfl|rfl|rfl|rfl<;>assumption
theorem c5i{v:Nat}(hv:v≤3):a0n (a40 v)=c1q (a0n v)∧a40 v≤3:=c2z (λv=>a0n (a40 v)=c1q (a0n v)∧a40 v≤3) (by decide) (by decide) (by decide) (by decide) hv
theorem c9d{v:Nat}(hv:v≤3):a0n (b1i v)=c7t (c1q (a0n v))∧b1i v≤3:=c2z (λv=>a0n (b1i v)=c7t (c1q (a0n v))∧b1i v≤3) (by decide) (by decide) (by decide) (by decide) hv
theorem b0r{v:Nat}(hv:v≤2):a0n (b1i v)=c7t (a0n v)∧b1i v≤3:=by
 have:v=0∨v=1∨v=2:=by omega
 rcases this with rfl|rfl|rfl<;>decide
theorem d2e:∀(l:List V2),l.foldl c5m (false,true)=(false,true)
 | []=>rfl
 |a::l=>by rw[List.foldl_cons,show c5m (false,true) a=(false,true) by simp[c5m]];exact d2e l
theorem d7q:∀(l:List V2),l.foldl vOr (true,false)=(true,false)
 | []=>rfl
 |a::l=>by rw[List.foldl_cons,show vOr (true,false) a=(true,false) by simp[vOr]];exact d7q l
theorem c1o:∀(l:List V2),l.foldl c5l (false,false)=(false,false)
 | []=>rfl
 |a::l=>by rw[List.foldl_cons,show c5l (false,false) a=(false,false) by simp[c5l]];exact c1o l
theorem b06:∀(l:List Nat) (out:Nat),(out=1∨out=2)→(∀v∈l,v≤3)→(l.map vR).foldl c5m (a0n out)=a0n (a5k 0 1 out l)∧a5k 0 1 out l≤2
 | [],out,ho,_=>by rcases ho with rfl|rfl<;>decide
 |v::l,out,ho,hv=>by
  have hl:=λv h=>hv v (List.mem_cons_of_mem _ h);rw[List.map_cons,List.foldl_cons];refine c2z (λv=>(l.map vR).foldl c5m (c5m (a0n out) (vR v))=a0n (a5k 0 1 out (v::l))∧a5k 0 1 out (v::l)≤2) ?_ ?_ ?_ ?_ (hv v (List.mem_cons_self ..))
  ·have:c5m (a0n out) (vR 0)=(false,true):=by rcases ho with rfl|rfl<;>decide
   rw[this,d2e];simp only[a5k,if_true];decide
  ·have:c5m (a0n out) (vR 1)=a0n out:=by rcases ho with rfl|rfl<;>decide
   rw[this];simp only[a5k];exact b06 l out ho hl
  ·have:c5m (a0n out) (vR 2)=a0n 2:=by rcases ho with rfl|rfl<;>decide
   rw[this];simp only[a5k];exact b06 l 2 (.inr rfl) hl
  ·have:c5m (a0n out) (vR 3)=a0n 2:=by rcases ho with rfl|rfl<;>decide
   rw[this];simp only[a5k];exact b06 l 2 (.inr rfl) hl
theorem b34:∀(l:List Nat) (out:Nat),(out=0∨out=2)→(∀v∈l,v≤3)→(l.map vR).foldl vOr (a0n out)=a0n (a5k 1 0 out l)∧a5k 1 0 out l≤2
 | [],out,ho,_=>by rcases ho with rfl|rfl<;>decide
 |v::l,out,ho,hv=>by
  have hl:=λv h=>hv v (List.mem_cons_of_mem _ h);rw[List.map_cons,List.foldl_cons];refine c2z (λv=>(l.map vR).foldl vOr (vOr (a0n out) (vR v))=a0n (a5k 1 0 out (v::l))∧a5k 1 0 out (v::l)≤2) ?_ ?_ ?_ ?_ (hv v (List.mem_cons_self ..))
  ·have:vOr (a0n out) (vR 0)=a0n out:=by rcases ho with rfl|rfl<;>decide
   rw[this];simp only[a5k];exact b34 l out ho hl
  ·have:vOr (a0n out) (vR 1)=(true,false):=by rcases ho with rfl|rfl<;>decide
   rw[this,d7q];simp only[a5k,if_true];decide
  ·have:vOr (a0n out) (vR 2)=a0n 2:=by rcases ho with rfl|rfl<;>decide
   rw[this];simp only[a5k];exact b34 l 2 (.inr rfl) hl
  ·have:vOr (a0n out) (vR 3)=a0n 2:=by rcases ho with rfl|rfl<;>decide
   rw[this];simp only[a5k];exact b34 l 2 (.inr rfl) hl
theorem b20:∀(l:List Nat) (out:Nat),(out=0∨out=1)→(∀v∈l,v≤3)→(l.map vR).foldl c5l (a0n out)=a0n (b2i out l)∧b2i out l≤2
 | [],out,ho,_=>by rcases ho with rfl|rfl<;>decide
 |v::l,out,ho,hv=>by
  have hl:=λv h=>hv v (List.mem_cons_of_mem _ h);rw[List.map_cons,List.foldl_cons];refine c2z (λv=>(l.map vR).foldl c5l (c5l (a0n out) (vR v))=a0n (b2i out (v::l))∧b2i out (v::l)≤2) ?_ ?_ ?_ ?_ (hv v (List.mem_cons_self ..))
  ·have:c5l (a0n out) (vR 0)=a0n out:=by rcases ho with rfl|rfl<;>decide
   rw[this];simp only[b2i,Nat.xor_zero];exact b20 l out ho hl
  ·have:c5l (a0n out) (vR 1)=a0n (out^^^1):=by rcases ho with rfl|rfl<;>decide
   rw[this];simp only[b2i];exact b20 l (out^^^1) (by rcases ho with rfl|rfl<;>decide) hl
  ·have:c5l (a0n out) (vR 2)=(false,false):=by rcases ho with rfl|rfl<;>decide
   rw[this,c1o];exact⟨rfl,by show(2:Nat)≤2;decide⟩
  ·have:c5l (a0n out) (vR 3)=(false,false):=by rcases ho with rfl|rfl<;>decide
   rw[this,c1o];exact⟨rfl,by show(2:Nat)≤2;decide⟩
theorem d49{s a b:Nat}(hs:s≤3)(ha:a≤3)(hb:b≤3):a0n (b3a s a b)=e6o (vR s) (vR a) (vR b)∧b3a s a b≤3:=by
 have h:∀s:Fin 4,∀a:Fin 4,∀b:Fin 4,a0n (b3a s a b)=e6o (vR s) (vR a) (vR b)∧b3a s a b≤3:=by decide
 exact h ⟨s,by omega⟩ ⟨a,by omega⟩ ⟨b,by omega⟩
theorem d39{e d:Nat}(he:e≤3)(hd:d≤3):a0n (b96 e d)=e6n (vR e) (vR d)∧b96 e d≤3:=by
 have h:∀e:Fin 4,∀d:Fin 4,a0n (b96 e d)=e6n (vR e) (vR d)∧b96 e d≤3:=by decide
 exact h ⟨e,by omega⟩ ⟨d,by omega⟩
theorem d8b:∀(l:List Nat) (s:Bool×Bool×Bool),(∀v∈l,v≤3)→(l.map a0n).foldl c5k s=(s.1||decide (1∈l),s.2.1||decide (0∈l),s.2.2||decide (2∈l))
 | [],s,_=>by simp
 |v::l,s,hv=>by
  have hl:=λv h=>hv v (List.mem_cons_of_mem _ h);rw[List.map_cons,List.foldl_cons,d8b l _ hl];obtain⟨a,b,c⟩:=s;refine c2z (λv=>((c5k (a,b,c) (a0n v)).1||decide (1∈l),(c5k (a,b,c) (a0n v)).2.1||decide (0∈l),(c5k (a,b,c) (a0n v)).2.2||decide (2∈l))=(a||decide (1∈v::l),b||decide (0∈v::l),c||decide (2∈v::l))) ?_ ?_ ?_ ?_ (hv v (List.mem_cons_self ..)) <;>
   simp[c5k,a0n,a2n,List.mem_cons]
theorem d6g(l:List Nat)(hv:∀v∈l,v≤3):a0n (c7o l)=e8x (l.map a0n)∧c7o l≤3:=by
 have hx:l.any (λv=>decide (a2n v=2))=decide (2∈l):=by
  rw[Bool.eq_iff_iff,List.any_eq_true,decide_eq_true_eq];constructor
  ·rintro⟨v,h,hc⟩
   have h3:=hv v h;have:v=2:=by revert hc h3;revert v;intro v _ hc h3;exact c2z (λv=>decide (a2n v=2)=true→v=2) (by decide) (by decide) (by decide) (by decide) h3 hc
   exact this▸h
  ·intro h;exact⟨2,h,by decide⟩
 unfold e8x c7o;rw[d8b l _ hv,hx];cases hf:l.findIdx? (λv=>decide (v≠3))with
 |none=>
  have hn:=List.findIdx?_eq_none_iff.1 hf;have h1:∀k,k≠3→k∉l:=λk hk hm=>by have:=hn k hm;simp[hk]at this
  simp only[h1 0 (by decide),h1 1 (by decide),h1 2 (by decide),decide_false,Bool.or_false];decide
 |some i=>
  obtain⟨hi,hp,_⟩:=List.findIdx?_eq_some_iff_getElem.1 hf;have hm:l.getD i 0∈l:=by rw[List.getD,List.getElem?_eq_getElem hi];exact List.getElem_mem hi
  have he:l.getD i 0≠3:=by rw[List.getD,List.getElem?_eq_getElem hi];simpa using hp
  have h3:=hv _ hm;show a0n (if _ then 2 else l.getD i 0)=_∧(if _ then 2 else l.getD i 0)≤3;generalize l.getD i 0=w at hm he h3⊢;have hw:w=0∨w=1∨w=2:=by omega
  simp only[Bool.false_or];by_cases h2:2∈l
  ·simp only[h2,decide_true,Bool.or_true,if_true];cases decide (1∈l)<;>cases decide (0∈l)<;>decide
  ·simp only[h2,decide_false,Bool.or_false];rcases hw with rfl|rfl|rfl
   ·simp only[hm,decide_true,Bool.true_and];cases decide (1∈l)<;>decide
   ·simp only[hm,decide_true,Bool.and_true];cases decide (0∈l)<;>decide
   ·exact absurd hm h2
theorem e9x(l:List Nat):(l.map a0n).map c1q=l.map vR:=by rw[List.map_map];rfl
theorem a95(l:List Nat)(i:Nat)(hi:i<l.length):(l.map vR).getD i (false,false)=vR (l.getD i 2):=by simp only[List.getD_eq_getElem?_getD,List.getElem?_map,List.getElem?_eq_getElem hi,Option.map_some,Option.getD_some]
theorem e0p(l:List Nat)(hv:∀v∈l,v≤3)(i:Nat):l.getD i 2≤3:=by
 simp only[List.getD_eq_getElem?_getD];cases h:l[i]? with
 |none=>decide
 |some v=>exact hv v (List.mem_of_getElem? h)
theorem c0u(k:Nat)(l:List Nat)(hv:∀v∈l,v≤3):a0n (a41 k l)=c7u k (l.map a0n)∧a41 k l≤3:=by
 unfold a41 c7u;rw[List.length_map];split
 ·decide
 rename_i ai;have lo:a25 k≤l.length:=by omega
 by_cases h13:k=13
 ·subst h13;rw[if_pos rfl];exact d6g l hv
 rw[if_neg h13,e9x];have g:=e0p l hv;unfold a3m;split
 ·exact⟨rfl,by decide⟩
 ·exact⟨rfl,by decide⟩
 ·show a0n (a40 (l.getD 0 2))=(l.map vR).getD 0 (false,false)∧_;rw[a95 _ _ (Nat.lt_of_lt_of_le (by decide) lo)];exact c5i (g 0)
 ·show a0n (b1i (l.getD 0 2))=c7t ((l.map vR).getD 0 (false,false))∧_;rw[a95 _ _ (Nat.lt_of_lt_of_le (by decide) lo)];exact c9d (g 0)
 ·have:=b06 l 1 (.inl rfl) hv;exact⟨this.1.symm,by omega⟩
 ·have:=b06 l 1 (.inl rfl) hv;show a0n (b1i (a5k 0 1 1 l))=c7t ((l.map vR).foldl c5m (a0n 1))∧_;rw[this.1];exact b0r this.2
 ·have:=b34 l 0 (.inl rfl) hv;exact⟨this.1.symm,by omega⟩
 ·have:=b34 l 0 (.inl rfl) hv;show a0n (b1i (a5k 1 0 0 l))=c7t ((l.map vR).foldl vOr (a0n 0))∧_;rw[this.1];exact b0r this.2
 ·have:=b20 l 0 (.inl rfl) hv;exact⟨this.1.symm,by omega⟩
 ·have:=b20 l 0 (.inl rfl) hv;show a0n (b1i (b2i 0 l))=c7t ((l.map vR).foldl c5l (a0n 0))∧_;rw[this.1];exact b0r this.2
 ·show a0n (b3a (l.getD 0 2) (l.getD 1 2) (l.getD 2 2))=e6o ((l.map vR).getD 0 (false,false)) ((l.map vR).getD 1 (false,false)) ((l.map vR).getD 2 (false,false))∧_;rw[a95 _ _ (Nat.lt_of_lt_of_le (by decide) lo),a95 _ _ (Nat.lt_of_lt_of_le (by decide) lo),a95 _ _ (Nat.lt_of_lt_of_le (by decide) lo)];exact d49 (g 0) (g 1) (g 2)
 ·show a0n (b96 (l.getD 0 2) (l.getD 1 2))=e6n ((l.map vR).getD 0 (false,false)) ((l.map vR).getD 1 (false,false))∧_;rw[a95 _ _ (Nat.lt_of_lt_of_le (by decide) lo),a95 _ _ (Nat.lt_of_lt_of_le (by decide) lo)];exact d39 (g 0) (g 1)
 ·exact absurd rfl h13
 ·refine⟨?_,by decide⟩;unfold d77;split<;>first|rfl|(exfalso;simp_all)
end Go.Pc
/- PcTwo: the simulation over values; what is laid into the nets before it begins does not matter. Plain. -/
namespace Go.Pc
open Go.Ax
theorem c74(v:Nat):a0n (a2n v)=a0n v:=by
 unfold a0n;have:a2n (a2n v)=a2n v:=by unfold a2n;split<;>simp<;>omega
 rw[this]
theorem c51(v:Nat):a2n v≤3:=by unfold a2n;split<;>omega
theorem c52{v:Nat}(h:v≤3):a2n v=v:=by unfold a2n;rw[if_neg (by omega)]
theorem b3e{l:List Nat}(h:∀v∈l,v≤3):l.map a2n=l:=by have:=List.map_congr_left (f:=a2n) (g:=λv=>v) (l:=l) (λv hv=>c52 (h v hv));rw[this,List.map_id']
def nAlg:Alg Nat:=⟨λk l=>a41 k (l.map a2n),0,λv=>v⟩
def vAlg0:Alg V2:=⟨c7u,a0n 0,a0n⟩
theorem e4v:Hom nAlg vAlg0 a0n:=by
 refine⟨λk l=>?_,rfl,λv=>rfl⟩;have h:=(c0u k (l.map a2n) (λv hv=>by obtain⟨w,_,rfl⟩:=List.mem_map.1 hv;exact c51 w)).1;show a0n (a41 k (l.map a2n))=c7u k (l.map a0n);rw[h,List.map_map]
 congr 1
 exact List.map_congr_left λv _=>c74 v
theorem c43(k:Nat)(l:List Nat)(h:∀v∈l,v≤3):a41 k l≤3:=(c0u k l h).2
section
variable {α:Type}{A B:Alg α}(eO:A.ev=B.ev){nodes:List Nd}{h:Hk α}
def Agr(P:Nat→Prop)(a b:List α):Prop:=a.length=b.length∧∀n,P n→a[n]?=b[n]?
theorem b3i:∀(is:List Nat) (vs:List α) (a b:List α) (P:Nat→Prop),Agr P a b→(∀i∈is,i<a.length)→is.length=vs.length→Agr (λn=>P n∨n∈is) (a1f a is vs) (a1f b is vs)
 | [],vs,a,b,P,aX,_,_=>by cases vs<;>exact⟨aX.1,λn hn=>aX.2 n (by simpa using hn)⟩
 |i::is,[],a,b,P,aX,_,hl=>by simp at hl
 |i::is,v::vs,a,b,P,aX,ag,hl=>by
  simp only[a1f];have:=b3i is vs (a.set i v) (b.set i v) (λn=>P n∨n=i) ⟨by simp[aX.1],λn hn=>by
   rw[List.getElem?_set,List.getElem?_set,←aX.1];by_cases hi:i=n
   ·simp[hi]
   ·rw[if_neg hi,if_neg hi];rcases hn with hn|hn
    ·exact aX.2 n hn
    ·exact absurd hn.symm hi⟩ (λj hj=>by rw[List.length_set];exact ag j (List.mem_cons_of_mem _ hj)) (by simpa using hl)
  refine⟨this.1,λn hn=>this.2 n ?_⟩;rcases hn with hn|hn
  ·exact .inl (.inl hn)
  ·rcases List.mem_cons.1 hn with rfl|hn
   ·exact .inl (.inr rfl)
   ·exact .inr hn
theorem a90(n:Nat)(a b:List α)(hl:a.length=b.length):∀(l:List Nat) (p:Nat),(∀m∈l,m<a.length∧a[m]?=b[m]?)→a2j A h n a p l=a2j B h n b p l
 | [],_,_=>rfl
 |m::r,p,hm=>by
  obtain⟨h1,h2⟩:=hm m (List.mem_cons_self ..);simp only[a2j,a90 n a b hl r (p+1) (λx hx=>hm x (List.mem_cons_of_mem _ hx))]
  congr 2
  rw[List.getD,List.getD,←h2,List.getElem?_eq_getElem h1];rfl
include eO in
theorem c4o(S:Nat→Prop):∀(ord done:List Nat) (a b:List α),Agr (λn=>n∈done∨S n) a b→a.length=nodes.length→(∀n∈ord,n<nodes.length)→(∀n∈ord,a0l nodes n=0∨a0l nodes n=14→S n)→
 (∀(i n:Nat),ord[i]?=some n→a0l nodes n≠0∧a0l nodes n≠14→∀m∈a1y nodes n,m<nodes.length∧(m∈done∨m∈ord.take i))→
 Agr (λn=>n∈done∨n∈ord∨S n) (ord.foldl (stepG A nodes h) a) (ord.foldl (stepG B nodes h) b)
 | [],done,a,b,aX,hl,_,_,_=>⟨aX.1,λn hn=>aX.2 n (by simpa using hn)⟩
 |x::ord,done,a,b,aX,hl,ag,hS,ht=>by
  rw[List.foldl_cons,List.foldl_cons];have hx:=ag x (List.mem_cons_self ..);have aw:(if a0l nodes x≠0∧a0l nodes x≠14 then A.ev (a0l nodes x) (a11 A nodes h a x)else a.getD x A.z)=(if a0l nodes x≠0∧a0l nodes x≠14 then B.ev (a0l nodes x) (a11 B nodes h b x)else b.getD x B.z):=by
   by_cases hk:a0l nodes x≠0∧a0l nodes x≠14
   ·rw[if_pos hk,if_pos hk,eO]
    congr 1
    refine a90 x a b aX.1 _ 0 (λm hm=>?_);obtain⟨h1,h2⟩:=ht 0 x rfl hk m hm;refine⟨by omega,aX.2 m (.inl ?_)⟩;rcases h2 with h2|h2
    ·exact h2
    ·simp at h2
   ·rw[if_neg hk,if_neg hk];have h1:=aX.2 x (.inr (hS x (List.mem_cons_self ..) (by omega)));rw[List.getD,List.getD,←h1,List.getElem?_eq_getElem (by omega)];rfl
  have bm:Agr (λn=>n∈x::done∨S n) (stepG A nodes h a x) (stepG B nodes h b x):=by
   unfold stepG;rw[aw];refine⟨by simp[aX.1],λn hn=>?_⟩;rw[List.getElem?_set,List.getElem?_set,←aX.1];by_cases hi:x=n
   ·simp[hi]
   ·rw[if_neg hi,if_neg hi];refine aX.2 n ?_;rcases hn with hn|hn
    ·rcases List.mem_cons.1 hn with rfl|hn
     ·exact absurd rfl hi
     ·exact .inl hn
    ·exact .inr hn
  have:=c4o S ord (x::done) _ _ bm (by rw[b9g];exact hl) (λn hn=>ag n (List.mem_cons_of_mem _ hn)) (λn hn=>hS n (List.mem_cons_of_mem _ hn)) (λi n hi hk m hm=>by
   obtain⟨h1,h2⟩:=ht (i+1) n (by simpa using hi) hk m hm;refine⟨h1,?_⟩;rcases h2 with h2|h2
   ·exact .inl (List.mem_cons_of_mem _ h2)
   ·rw[List.take_succ_cons]at h2;rcases List.mem_cons.1 h2 with rfl|h2
    ·exact .inl (List.mem_cons_self ..)
    ·exact .inr h2)
  refine⟨this.1,λn hn=>this.2 n ?_⟩;rcases hn with hn|hn|hn
  ·exact .inl (List.mem_cons_of_mem _ hn)
  ·rcases List.mem_cons.1 hn with rfl|hn
   ·exact .inl (List.mem_cons_self ..)
   ·exact .inr (.inl hn)
  ·exact .inr (.inr hn)
include eO in
theorem e02{ord ins sts:List Nat}{vi vs:List α}(hp:ord.Perm (List.range nodes.length))(ht:e3l nodes ord)(nK:∀n,n<nodes.length→a0l nodes n≠0∧a0l nodes n≠14→a1l (a0l nodes n)=true)
 (dG:∀n,n<nodes.length→∀m∈a1y nodes n,m<nodes.length)(hi:∀n,n<nodes.length→a0l nodes n=0→n∈ins)(hs:∀n,n<nodes.length→a0l nodes n=14→n∈sts)
 (cW:∀i∈ins,i<nodes.length)(ep:∀i∈sts,i<nodes.length)(kD:ins.length=vi.length)(eH:sts.length=vs.length):a9m A nodes h ord ins sts vi vs=a9m B nodes h ord ins sts vi vs:=by
 have h0:Agr (λ_=>False) (List.replicate nodes.length A.z) (List.replicate nodes.length B.z):=⟨by simp,λn hn=>hn.elim⟩
 have h1:=b3i ins vi _ _ _ h0 (λi hh=>by simpa using cW i hh) kD;have h2:=b3i sts vs _ _ _ h1 (λi hh=>by rw[a2v];simpa using ep i hh) eH;have ai:(a1f (a1f (List.replicate nodes.length A.z) ins vi) sts vs).length=nodes.length:=by rw[a2v,a2v];simp
 have cF:∀n,n∈ord↔n<nodes.length:=λn=>by rw[hp.mem_iff];simp
 have h3:=c4o (nodes:=nodes) (h:=h) eO (λn=>(False∨n∈ins)∨n∈sts) ord [] _ _ ⟨h2.1,λn hn=>h2.2 n (by simpa using hn)⟩ ai (λn hn=>(cF n).1 hn) (λn hn hk=>by
  have hn:=(cF n).1 hn;rcases hk with hk|hk
  ·exact .inl (.inr (hi n hn hk))
  ·exact .inr (hs n hn hk)) (λi n fB hk m hm=>by
  have hn:=(cF n).1 (List.mem_of_getElem? fB);exact⟨dG n hn m hm,.inr (ht i n fB (nK n hn hk) m hm)⟩)
 unfold a9m;apply List.ext_getElem?;intro n;by_cases hn:n<nodes.length
 ·exact h3.2 n (.inr (.inl ((cF n).2 hn)))
 ·rw[List.getElem?_eq_none (by rw[a9v,ai];omega),List.getElem?_eq_none (by rw[a9v,←h2.1,ai];omega)]
omit eO in
theorem d94{outs sts:List Nat}{nets:List α}(ho:∀n∈outs,n<nets.length)(hs:∀n∈sts,a1y nodes n≠[]∧∀m∈a1y nodes n,m<nets.length):b7i A nodes h outs sts nets=b7i B nodes h outs sts nets:=by
 unfold b7i
 congr 1
 ·exact List.map_congr_left λn hn=>by rw[List.getD,List.getD,List.getElem?_eq_getElem (ho n hn)];rfl
 ·refine List.map_congr_left λn hn=>?_;obtain⟨h1,h2⟩:=hs n hn;have e:a11 A nodes h nets n=a11 B nodes h nets n:=a90 n nets nets rfl _ 0 (λm hm=>⟨h2 m hm,rfl⟩);rw[e];have hl:0<(a11 B nodes h nets n).length:=by rw[a6j];exact List.length_pos_iff.2 h1
  rw[List.getD,List.getD,List.getElem?_eq_getElem hl];rfl
end
end Go.Pc
/- PcDet: what a pattern detects, by values: the responses of the two runs contradict each other. Plain. -/
namespace Go.Pc
open Go.Ax
def con(x y:Nat):Bool:=decide (x≤1)&&decide (y≤1)&&decide (x≠y)
def a9a:List Nat→List Nat→Bool
 |x::xs,y::ys=>con x y||a9a xs ys
 |_,_=>false
theorem d64{x y:Nat}(hx:x≤3)(hy:y≤3):e8v (a0n x) (a0n y)=con x y:=by
 have h:∀x:Fin 4,∀y:Fin 4,e8v (a0n x) (a0n y)=con x y:=by decide
 exact h ⟨x,by omega⟩ ⟨y,by omega⟩
theorem d62{x y:Nat}(hx:x≤3)(hy:y≤3):con (a40 x) (if y=3 then 2 else y)=con x y:=by
 have h:∀x:Fin 4,∀y:Fin 4,con (a40 x) (if(y:Nat)=3 then 2 else y)=con x y:=by decide
 exact h ⟨x,by omega⟩ ⟨y,by omega⟩
theorem b5h:∀(a b:List Nat) (s:Bool),(∀v∈a,v≤3)→(∀v∈b,v≤3)→c5j (a.map a0n) (b.map a0n) s=(s||a9a a b)
 | [],b,s,_,_=>by cases b<;>simp[c5j,a9a]
 |x::xs,[],s,_,_=>by simp[c5j,a9a]
 |x::xs,y::ys,s,ha,hb=>by simp only[List.map_cons,c5j,a9a];rw[b5h xs ys _ (λv h=>ha v (List.mem_cons_of_mem _ h)) (λv h=>hb v (List.mem_cons_of_mem _ h)),d64 (ha x (List.mem_cons_self ..)) (hb y (List.mem_cons_self ..)),Bool.or_assoc]
theorem b4e:∀(a b c d:List Nat),a.length=b.length→a9a (a++c) (b++d)=(a9a a b||a9a c d)
 | [],[],c,d,_=>by simp[a9a]
 | [],_::_,_,_,h=>by simp at h
 |_::_,[],_,_,h=>by simp at h
 |x::xs,y::ys,c,d,h=>by simp only[List.cons_append,a9a];rw[b4e xs ys c d (by simpa using h),Bool.or_assoc]
theorem c4y{α:Type}(f g f' g':α→Nat):∀(l:List α),(∀x∈l,con (f x) (g x)=con (f' x) (g' x))→a9a (l.map f) (l.map g)=a9a (l.map f') (l.map g')
 | [],_=>rfl
 |x::l,h=>by simp only[List.map_cons,a9a];rw[h x (List.mem_cons_self ..),c4y f g f' g' l (λy hy=>h y (List.mem_cons_of_mem _ hy))]
def a75(nodes:List Nd)(h:Hk Nat)(nets:List Nat)(sts:List Nat):List Nat:=sts.map λn=>if(a11 nAlg nodes h nets n).getD 0 0=3 then 2 else(a11 nAlg nodes h nets n).getD 0 0
def d74(h:Hk Nat):Prop:=(∀n v,v≤3→h.net n v≤3)∧∀n p v,v≤3→h.pin n p v≤3
theorem d0q:d74 hk0:=⟨λ_ _ h=>h,λ_ _ _ h=>h⟩
theorem d7z{f:Flt}{v:Nat}(h:v≤3):d74 (hkF f v):=by
 constructor
 ·intro n w hw;unfold hkF;dsimp only;split
  ·exact h
  ·exact hw
 ·intro n p w hw;unfold hkF;dsimp only;split
  ·exact h
  ·exact hw
theorem a62{l:List Nat}(h:∀v∈l,v≤3)(n:Nat):l.getD n 0≤3:=by
 rw[List.getD];cases hn:l[n]? with
 |none=>decide
 |some v=>exact h v (List.mem_of_getElem? hn)
theorem c3x{h:Hk Nat}(hh:d74 h){nets:List Nat}(hn:∀v∈nets,v≤3)(n:Nat):∀(l:List Nat) (p:Nat),∀v∈a2j nAlg h n nets p l,v≤3
 | [],p,v,hv=>by simp[a2j]at hv
 |m::l,p,v,hv=>by
  simp only[a2j,List.mem_cons]at hv;rcases hv with rfl|hv
  ·exact hh.2 _ _ _ (a62 hn m)
  ·exact c3x hh hn n l (p+1) v hv
theorem c9h(k:Nat)(l:List Nat):nAlg.ev k l≤3:=c43 k _ (λv hv=>by obtain⟨w,_,rfl⟩:=List.mem_map.1 hv;exact c51 w)
theorem c89{nodes:List Nd}{h:Hk Nat}(hh:d74 h){nets:List Nat}(hn:∀v∈nets,v≤3)(n:Nat):∀v∈stepG nAlg nodes h nets n,v≤3:=by
 intro v hv;unfold stepG at hv;rcases List.mem_or_eq_of_mem_set hv with h1|h1
 ·exact hn v h1
 ·rw[h1];refine hh.1 _ _ ?_;split
  ·exact c9h _ _
  ·exact a62 hn n
theorem d14{nodes:List Nd}{h:Hk Nat}(hh:d74 h):∀(ord:List Nat) (nets:List Nat),(∀v∈nets,v≤3)→∀v∈ord.foldl (stepG nAlg nodes h) nets,v≤3
 | [],nets,hn=>hn
 |x::ord,nets,hn=>by rw[List.foldl_cons];exact d14 hh ord _ (c89 hh hn x)
theorem b3g:∀(is vs N:List Nat),(∀v∈N,v≤3)→(∀v∈vs,v≤3)→∀v∈a1f N is vs,v≤3
 | [],vs,N,h,_=>by cases vs<;>exact h
 |_::_,[],N,h,_=>h
 |i::is,w::vs,N,h,hv=>by
  simp only[a1f];refine b3g is vs _ (λv hm=>?_) (λv hm=>hv v (List.mem_cons_of_mem _ hm));rcases List.mem_or_eq_of_mem_set hm with h1|h1
  ·exact h v h1
  ·rw[h1];exact hv w (List.mem_cons_self ..)
theorem b7y{nodes:List Nd}{h:Hk Nat}(hh:d74 h)(ord ins sts vi vs:List Nat)(hi:∀v∈vi,v≤3)(hs:∀v∈vs,v≤3):∀v∈a9m nAlg nodes h ord ins sts vi vs,v≤3:=d14 hh _ _ (b3g _ _ _ (b3g _ _ _ (λv hv=>by rw[List.eq_of_mem_replicate hv];show(0:Nat)≤3;decide) hi) hs)
structure Sim.good(S:Sim):Prop where
 perm:S.ord.Perm (List.range S.nodes.length)
 topo:e3l S.nodes S.ord
 comb:∀n,n<S.nodes.length→a0l S.nodes n≠0∧a0l S.nodes n≠14→a1l (a0l S.nodes n)=true
 inn:∀n,n<S.nodes.length→∀m∈a1y S.nodes n,m<S.nodes.length
 ins:∀n,n∈S.ins↔n<S.nodes.length∧a0l S.nodes n=0
 sts:∀n,n∈S.sts↔n<S.nodes.length∧a0l S.nodes n=14
 dff:∀n∈S.sts,a1y S.nodes n≠[]
 outs:∀n∈S.outs,n<S.nodes.length
section
variable {S:Sim}(hS:S.good){p:Pat}(ft:S.ins.length=p.ins.length)(fl:S.sts.length=p.sts.length)
include hS ft fl
theorem Sim.good.nets(h:Hk V2):S.nets vAlg h (p.ins.map a0n) (p.sts.map a0n)=S.nets vAlg0 h (p.ins.map a0n) (p.sts.map a0n):=e02 (A:=vAlg) (B:=vAlg0) rfl hS.perm hS.topo hS.comb hS.inn (λn hn hk=>(hS.ins n).2 ⟨hn,hk⟩) (λn hn hk=>(hS.sts n).2 ⟨hn,hk⟩) (λn hn=>((hS.ins n).1 hn).1) (λn hn=>((hS.sts n).1 hn).1) (by simpa using ft) (by simpa using fl)
omit ft fl in
theorem Sim.good.seen(h:Hk V2)(nets:List V2)(hl:nets.length=S.nodes.length):S.seen vAlg h nets=S.seen vAlg0 h nets:=d94 (λn hn=>by rw[hl];exact hS.outs n hn) (λn hn=>⟨hS.dff n hn,λm hm=>by rw[hl];exact hS.inn n ((hS.sts n).1 hn).1 m hm⟩)
theorem Sim.good.det(f:Flt)(hm:f.model=0→f.value≤3)(bv:f.node<S.nodes.length)(dO:f.other<S.nodes.length)(g9:∀v∈p.ins,v≤3)(oH:∀v∈p.sts,v≤3) :
 S.det f p=(a9a (S.outs.map λn=>(S.nets nAlg hk0 p.ins p.sts).getD n 0) (S.outs.map λn=>(S.nets nAlg (hkF f (a20 nAlg (S.nets nAlg hk0 p.ins p.sts) f)) p.ins p.sts).getD n 0) ||
  a9a (S.sts.map λn=>a40 ((S.nets nAlg hk0 p.ins p.sts).getD ((a1y S.nodes n).getD 0 0) 0)) (a75 S.nodes (hkF f (a20 nAlg (S.nets nAlg hk0 p.ins p.sts) f)) (S.nets nAlg (hkF f (a20 nAlg (S.nets nAlg hk0 p.ins p.sts) f)) p.ins p.sts) S.sts)):=by
 have hG:S.nets vAlg hk0 (p.ins.map a0n) (p.sts.map a0n)=(S.nets nAlg hk0 p.ins p.sts).map a0n:=by rw[hS.nets ft fl];exact(c03 e4v d0r _ _ _ _ _).symm
 have qO:(S.nets nAlg hk0 p.ins p.sts).length=S.nodes.length:=b38 _ _ _ _ _;have lN:∀v∈S.nets nAlg hk0 p.ins p.sts,v≤3:=b7y d0q _ _ _ _ _ g9 oH;generalize rZ:S.nets nAlg hk0 p.ins p.sts=G at hG qO lN;have hF:a20 vAlg (G.map a0n) f=a0n (a20 nAlg G f):=by
  have h1:=c6q e4v G f;rw[h1];unfold a20;have hz:∀n,n<S.nodes.length→(G.map a0n).getD n vAlg.z=(G.map a0n).getD n vAlg0.z:=λn hn=>by rw[List.getD,List.getD,List.getElem?_eq_getElem (by rw[List.length_map,qO];exact hn)];rfl
  rw[hz _ bv,hz _ dO];rfl
 have uj:a20 nAlg G f≤3:=by
  unfold a20;split
  ·rename_i h;exact hm h
  split
  ·exact a62 lN _
  split<;>exact c9h _ _
 have hh:=d7z (f:=f) uj;have hB:S.nets vAlg (hkF f (a0n (a20 nAlg G f))) (p.ins.map a0n) (p.sts.map a0n)=(S.nets nAlg (hkF f (a20 nAlg G f)) p.ins p.sts).map a0n:=by rw[hS.nets ft fl];exact(c03 e4v (d0p f _) _ _ _ _ _).symm
 have qP:(S.nets nAlg (hkF f (a20 nAlg G f)) p.ins p.sts).length=S.nodes.length:=b38 _ _ _ _ _;have o8:∀v∈S.nets nAlg (hkF f (a20 nAlg G f)) p.ins p.sts,v≤3:=b7y hh _ _ _ _ _ g9 oH;unfold Sim.det;dsimp only;rw[hG,hF,hB];generalize a20 nAlg G f=q at hh hB qP o8⊢;generalize S.nets nAlg (hkF f q) p.ins p.sts=B at hB qP o8⊢;rw[hS.seen hk0 _ (by rw[List.length_map];exact qO),hS.seen (hkF f (a0n q)) _ (by rw[List.length_map];exact qP)];have e1:S.seen vAlg0 hk0 (G.map a0n)=(S.seen nAlg hk0 G).map a0n:=(b9m e4v d0r _ _ _).symm;have e2:S.seen vAlg0 (hkF f (a0n q)) (B.map a0n)=(S.seen nAlg (hkF f q) B).map a0n:=(b9m e4v (d0p f _) _ _ _).symm;rw[e1,e2];have key:∀(h:Hk Nat) (N:List Nat),d74 h→(∀v∈N,v≤3)→∀v∈S.seen nAlg h N,v≤3:=by
  intro h N hh hN v hv;unfold Sim.seen b7i at hv;rcases List.mem_append.1 hv with hv|hv
  ·obtain⟨n,_,rfl⟩:=List.mem_map.1 hv;exact a62 hN n
  ·obtain⟨n,_,rfl⟩:=List.mem_map.1 hv;exact a62 (λv hv=>c3x hh hN n _ _ v hv) 0
 rw[b5h _ _ _ (key _ _ d0q lN) (key _ _ hh o8),Bool.false_or];unfold Sim.seen b7i;rw[b4e _ _ _ _ (by simp)]
 congr 1
 unfold a75;refine c4y _ _ _ _ _ (λn hn=>?_);have hr:(a11 nAlg S.nodes hk0 G n).getD 0 0=G.getD ((a1y S.nodes n).getD 0 0) 0:=by
  have hd:=hS.dff n hn;unfold a11;cases hi:a1y S.nodes n with
  |nil=>exact absurd hi hd
  |cons m l=>rfl
 have hx:G.getD ((a1y S.nodes n).getD 0 0) 0≤3:=a62 lN _;have hy:(a11 nAlg S.nodes (hkF f q) B n).getD 0 0≤3:=a62 (λv hv=>c3x hh o8 n _ _ v hv) 0;show con ((a11 nAlg S.nodes hk0 G n).getD 0 0) _=_;rw[hr,d62 hx hy];rfl
end
end Go.Pc
/- PcMono: more is known, no less is found: a run whose inputs tell more gives nets that tell more. Plain. -/
namespace Go.Pc
open Go.Ax
def le2(a b:Nat):Prop:=a=b∨a=2
def lel:List Nat→List Nat→Prop
 | [],[]=>True
 |a::l,b::m=>le2 a b∧lel l m
 |_,_=>False
theorem lel.rfl':∀l:List Nat,lel l l
 | []=>trivial
 |a::l=>⟨.inl rfl,lel.rfl' l⟩
theorem lel.len:∀{l m:List Nat},lel l m→l.length=m.length
 | [],[],_=>rfl
 |a::l,b::m,h=>by simp[lel.len h.2]
 | [],b::m,h=>h.elim
 |a::l,[],h=>h.elim
theorem lel.getD(d:Nat):∀{l m:List Nat},lel l m→∀i,le2 (l.getD i d) (m.getD i d)
 | [],[],_,i=>.inl rfl
 |a::l,b::m,h,0=>h.1
 |a::l,b::m,h,i+1=>by simpa using lel.getD d h.2 i
 | [],b::m,h,_=>h.elim
 |a::l,[],h,_=>h.elim
theorem lel.set{v w:Nat}(hv:le2 v w):∀{l m:List Nat},lel l m→∀i,lel (l.set i v) (m.set i w)
 | [],[],_,i=>trivial
 |a::l,b::m,h,0=>⟨hv,h.2⟩
 |a::l,b::m,h,i+1=>⟨h.1,lel.set hv h.2 i⟩
 | [],b::m,h,_=>h.elim
 |a::l,[],h,_=>h.elim
theorem lel.map{f g:Nat→Nat}(hf:∀a b,le2 a b→le2 (f a) (g b)):∀{l m:List Nat},lel l m→lel (l.map f) (m.map g)
 | [],[],_=>trivial
 |a::l,b::m,h=>⟨hf _ _ h.1,lel.map hf h.2⟩
 | [],b::m,h=>h.elim
 |a::l,[],h=>h.elim
theorem c0e{α:Type}{f g:α→Nat}:∀(l:List α),(∀x∈l,le2 (f x) (g x))→lel (l.map f) (l.map g)
 | [],_=>trivial
 |a::l,h=>⟨h a (List.mem_cons_self ..),c0e l λx hx=>h x (List.mem_cons_of_mem _ hx)⟩
theorem lel.eq:∀{l m:List Nat},lel l m→2∉l→l=m
 | [],[],_,_=>rfl
 |a::l,b::m,h,h2=>by
  simp only[List.mem_cons,not_or]at h2;rw[lel.eq h.2 h2.2];rcases h.1 with e|e
  ·rw[e]
  ·exact absurd e.symm h2.1
 | [],b::m,h,_=>h.elim
 |a::l,[],h,_=>h.elim
theorem d05{a b:Nat}(h:le2 a b):le2 (a2n a) (a2n b):=by
 rcases h with rfl|rfl
 ·exact .inl rfl
 ·exact .inr rfl
theorem a9q{a b:Nat}(h:le2 a b):le2 (a40 a) (a40 b):=by
 rcases h with rfl|rfl
 ·exact .inl rfl
 ·exact .inr rfl
theorem b85{a b:Nat}(h:le2 a b):le2 (b1i a) (b1i b):=by
 rcases h with rfl|rfl
 ·exact .inl rfl
 ·exact .inr rfl
theorem d1m{low bf:Nat}:∀(l:List Nat),a5k low bf 2 l=low∨a5k low bf 2 l=2
 | []=>.inr rfl
 |v::l=>by
  simp only[a5k];split
  ·exact .inl rfl
  ·have:(if v=bf then 2 else 2)=2:=by split<;>rfl
   rw[this];exact d1m l
theorem a8n{low bf:Nat}(h1:low≤1)(h2:bf≤1):∀{l m:List Nat},lel l m→∀{o o':Nat},le2 o o'→le2 (a5k low bf o l) (a5k low bf o' m)
 | [],[],_,o,o',ho=>ho
 |a::l,b::m,h,o,o',ho=>by
  simp only[a5k];rcases h.1 with rfl|rfl
  ·split
   ·exact .inl rfl
   ·refine a8n h1 h2 h.2 ?_;split
    ·exact ho
    ·exact .inl rfl
  ·rw[if_neg (by omega),if_neg (by omega)];split
   ·rcases d1m (low:=low) (bf:=bf) l with e|e
    ·exact .inl e
    ·exact .inr e
   ·exact a8n h1 h2 h.2 (.inr rfl)
 | [],b::m,h,_,_,_=>h.elim
 |a::l,[],h,_,_,_=>h.elim
theorem b7a:∀{l m:List Nat},lel l m→∀o:Nat,le2 (b2i o l) (b2i o m)
 | [],[],_,o=>.inl rfl
 |a::l,b::m,h,o=>by
  simp only[b2i];rcases h.1 with rfl|rfl
  ·split
   ·exact b7a h.2 _
   ·exact .inl rfl
  ·rw[if_neg (by omega)];exact .inr rfl
 | [],b::m,h,_=>h.elim
 |a::l,[],h,_=>h.elim
theorem d48{s s' a a' b b':Nat}(hs:le2 s s')(ha:le2 a a')(hb:le2 b b'):le2 (b3a s a b) (b3a s' a' b'):=by
 have key:∀s:Nat,(if a=b then a40 a else 2)=2∨(if a=b then a40 a else 2)=b3a s a' b':=by
  intro s;by_cases e:a=b
  ·rw[if_pos e];rcases ha with rfl|rfl
   ·rcases hb with rfl|rfl
    ·right;unfold b3a;subst e;split
     ·rfl
     split
     ·rfl
     rw[if_pos rfl]
    ·left;rw[e];rfl
   ·left;rfl
  ·rw[if_neg e];exact .inl rfl
 unfold b3a;rcases hs with rfl|rfl
 ·split
  ·exact a9q ha
  split
  ·exact a9q hb
  ·rename_i h0 h1;rcases key s with h|h
   ·exact .inr h
   ·left;rw[h];unfold b3a;rw[if_neg h0,if_neg h1]
 ·rw[if_neg (by omega),if_neg (by omega)];rcases key s' with h|h
  ·exact .inr h
  ·exact .inl h
theorem d38{e e' d d':Nat}(he:le2 e e')(hd:le2 d d'):le2 (b96 e d) (b96 e' d'):=by
 unfold b96;rcases he with rfl|rfl
 ·split
  ·exact .inl rfl
  split
  ·exact a9q hd
  ·exact .inl rfl
 ·exact .inr rfl
theorem e1i{l:List Nat}(h:2∈l):c7o l=2:=by
 unfold c7o;have h1:∃i,l.findIdx? (λv=>decide (v≠3))=some i:=by
  cases hf:l.findIdx? (λv=>decide (v≠3))with
  |some i=>exact⟨i,rfl⟩
  |none=>have:=List.findIdx?_eq_none_iff.1 hf 2 h;simp at this
 obtain⟨i,hi⟩:=h1;rw[hi];have h2:l.any (λv=>decide (a2n v=2))=true:=List.any_eq_true.2 ⟨2,h,by decide⟩;simp only[h2,Bool.or_true,if_true]
theorem d6f{l m:List Nat}(h:lel l m):le2 (c7o l) (c7o m):=by
 by_cases h2:2∈l
 ·exact .inr (e1i h2)
 ·rw[h.eq h2];exact .inl rfl
theorem c6r(k:Nat){l m:List Nat}(h:lel l m):le2 (a3m k l) (a3m k m):=by
 unfold a3m;split
 ·exact .inl rfl
 ·exact .inl rfl
 ·exact a9q (h.getD 2 0)
 ·exact b85 (h.getD 2 0)
 ·exact a8n (by omega) (by omega) h (.inl rfl)
 ·exact b85 (a8n (by omega) (by omega) h (.inl rfl))
 ·exact a8n (by omega) (by omega) h (.inl rfl)
 ·exact b85 (a8n (by omega) (by omega) h (.inl rfl))
 ·exact b7a h 0
 ·exact b85 (b7a h 0)
 ·exact d48 (h.getD 2 0) (h.getD 2 1) (h.getD 2 2)
 ·exact d38 (h.getD 2 0) (h.getD 2 1)
 ·exact d6f h
 ·exact .inl rfl
theorem c31(k:Nat){l m:List Nat}(h:lel l m):le2 (nAlg.ev k l) (nAlg.ev k m):=by
 show le2 (a41 k (l.map a2n)) (a41 k (m.map a2n));unfold a41;rw[List.length_map,List.length_map,h.len];split
 ·exact .inl rfl
 ·exact c6r k (h.map λa b=>d05)
structure HkM(h g:Hk Nat):Prop where
 net:∀n v w,le2 v w→le2 (h.net n v) (g.net n w)
 pin:∀n p v w,le2 v w→le2 (h.pin n p v) (g.pin n p w)
theorem d5a:HkM hk0 hk0:=⟨λ_ _ _ h=>h,λ_ _ _ _ h=>h⟩
theorem d59(f:Flt){v w:Nat}(hv:le2 v w):HkM (hkF f v) (hkF f w):=by
 constructor
 ·intro n a b h;unfold hkF;dsimp only;split
  ·exact hv
  ·exact h
 ·intro n p a b h;unfold hkF;dsimp only;split
  ·exact hv
  ·exact h
section
variable {nodes:List Nd}{h g:Hk Nat}(hh:HkM h g)
include hh
theorem c3w(n:Nat){N M:List Nat}(hN:lel N M):∀(l:List Nat) (p:Nat),lel (a2j nAlg h n N p l) (a2j nAlg g n M p l)
 | [],_=>trivial
 |m::l,p=>⟨hh.pin _ _ _ _ (hN.getD 0 m),c3w n hN l (p+1)⟩
theorem b5v(n:Nat){N M:List Nat}(hN:lel N M):lel (a11 nAlg nodes h N n) (a11 nAlg nodes g M n):=c3w hh n hN _ 0
theorem c88(n:Nat){N M:List Nat}(hN:lel N M):lel (stepG nAlg nodes h N n) (stepG nAlg nodes g M n):=by
 unfold stepG;refine hN.set (hh.net _ _ _ ?_) n;split
 ·exact c31 _ (b5v hh n hN)
 ·exact hN.getD 0 n
theorem c0q:∀(ord:List Nat) {N M:List Nat},lel N M→lel (ord.foldl (stepG nAlg nodes h) N) (ord.foldl (stepG nAlg nodes g) M)
 | [],_,_,hN=>hN
 |n::ord,_,_,hN=>by rw[List.foldl_cons,List.foldl_cons];exact c0q ord (c88 hh n hN)
omit hh in
theorem b3f:∀(is vi wi:List Nat) {N M:List Nat},lel vi wi→lel N M→lel (a1f N is vi) (a1f M is wi)
 | [],vi,wi,N,M,_,hN=>by cases vi<;>cases wi<;>exact hN
 |i::is,[],[],N,M,_,hN=>hN
 |i::is,v::vi,w::wi,N,M,hv,hN=>by simp only[a1f];exact b3f is vi wi hv.2 (hN.set hv.1 i)
 |i::is,[],_::_,_,_,hv,_=>hv.elim
 |i::is,_::_,[],_,_,hv,_=>hv.elim
theorem c02(ord ins sts:List Nat){vi wi vs ws:List Nat}(hi:lel vi wi)(hs:lel vs ws):lel (a9m nAlg nodes h ord ins sts vi vs) (a9m nAlg nodes g ord ins sts wi ws):=c0q hh ord (b3f _ _ _ hs (b3f _ _ _ hi (lel.rfl' _)))
end
theorem c6p{N M:List Nat}(hN:lel N M)(f:Flt):le2 (a20 nAlg N f) (a20 nAlg M f):=by
 unfold a20;split
 ·exact .inl rfl
 split
 ·exact hN.getD _ _
 split
 ·exact c31 _ ⟨hN.getD _ _,hN.getD _ _,trivial⟩
 ·exact c31 _ ⟨hN.getD _ _,hN.getD _ _,trivial⟩
theorem d63{x x' y y':Nat}(hx:le2 x x')(hy:le2 y y')(h:con x y=true):con x' y'=true:=by
 unfold con at h⊢;simp only[Bool.and_eq_true,decide_eq_true_eq]at h⊢;rcases hx with rfl|rfl
 ·rcases hy with rfl|rfl
  ·exact h
  ·omega
 ·omega
theorem b4d:∀{a a' b b':List Nat},lel a a'→lel b b'→a9a a b=true→a9a a' b'=true
 | [],_,_,_,_,_,h=>by simp[a9a]at h
 |_::_,_,[],_,_,_,h=>by simp[a9a]at h
 |x::a,x'::a',y::b,y'::b',ha,hb,h=>by
  simp only[a9a,Bool.or_eq_true]at h⊢;rcases h with h|h
  ·exact .inl (d63 ha.1 hb.1 h)
  ·exact .inr (b4d ha.2 hb.2 h)
 |_::_,[],_,_,ha,_,_=>ha.elim
 |_::_,_::_,_::_,[],_,hb,_=>hb.elim
theorem Sim.good.det_mono{S:Sim}(hS:S.good){p q:Pat}(ft:S.ins.length=p.ins.length)(fl:S.sts.length=p.sts.length)(hi:lel p.ins q.ins)(hs:lel p.sts q.sts)(f:Flt)(hm:f.model=0→f.value≤3)(bv:f.node<S.nodes.length)(dO:f.other<S.nodes.length)
 (g9:∀v∈p.ins,v≤3)(oH:∀v∈p.sts,v≤3)(qe:∀v∈q.ins,v≤3)(pA:∀v∈q.sts,v≤3)(h:S.det f p=true):S.det f q=true:=by
 rw[hS.det ft fl f hm bv dO g9 oH]at h;rw[hS.det (ft.trans hi.len) (fl.trans hs.len) f hm bv dO qe pA];have hG:lel (S.nets nAlg hk0 p.ins p.sts) (S.nets nAlg hk0 q.ins q.sts):=c02 d5a _ _ _ hi hs;have hH:=d59 f (c6p hG f);have hB:lel (S.nets nAlg (hkF f (a20 nAlg (S.nets nAlg hk0 p.ins p.sts) f)) p.ins p.sts) (S.nets nAlg (hkF f (a20 nAlg (S.nets nAlg hk0 q.ins q.sts) f)) q.ins q.sts):=c02 hH _ _ _ hi hs;rw[Bool.or_eq_true]at h⊢;rcases h with h|h
 ·exact .inl (b4d (c0e _ λn _=>hG.getD 0 n) (c0e _ λn _=>hB.getD 0 n) h)
 ·refine .inr (b4d (c0e _ λn _=>a9q (hG.getD 0 _)) (c0e _ λn _=>?_) h);have hr:=(b5v (nodes:=S.nodes) hH n hB).getD 0 0;rcases hr with e|e
  ·rw[e];exact .inl rfl
  ·rw[e];exact .inr rfl
end Go.Pc
