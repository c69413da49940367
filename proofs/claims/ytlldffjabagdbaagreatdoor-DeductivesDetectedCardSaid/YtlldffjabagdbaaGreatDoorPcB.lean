/- PcWord: words of 64 values as plain data. Plain definitions. -/
import Derived.Test.YtlldffjabagdbaaGreatDoorPcP
import Derived.Test.YtlldffjabagdbaaGreatDoorAxD
set_option linter.unusedSimpArgs false
set_option linter.unusedVariables false
namespace Go.Pc
open Go.Ax
structure W where
 one:BitVec 64
 zero:BitVec 64
def W.enc(w:W):List AV:=[u64 w.one,u64 w.zero]
attribute [go_sem] W.enc
def a2i(v:Nat):Nat:=if 3<v then 2 else v
def a1i(v:Nat):W:=match a2i v with
 |0=>⟨0#64,BitVec.allOnes 64⟩
 |1=>⟨BitVec.allOnes 64,0#64⟩
 |2=>⟨0#64,0#64⟩
 |_=>⟨BitVec.allOnes 64,BitVec.allOnes 64⟩
def d61(a b:W):W:=⟨a.one&&&b.one,a.zero|||b.zero⟩
def wOr(a b:W):W:=⟨a.one|||b.one,a.zero&&&b.zero⟩
def d60(a b:W):W:=⟨a.one&&&b.zero|||a.zero&&&b.one,a.one&&&b.one|||a.zero&&&b.zero⟩
def a7g(f:W→W→W)(z:W)(l:List W):W:=l.foldl f z
def a69(w:W):W:=⟨w.one &&& ~~~(w.one&&&w.zero),w.zero &&& ~~~(w.one&&&w.zero)⟩
def e0h(w:W):W:=⟨w.zero,w.one⟩
def e6k(s a b:W):W:=⟨s.zero&&&a.one|||s.one&&&b.one|||a.one&&&b.one,s.zero&&&a.zero|||s.one&&&b.zero|||a.zero&&&b.zero⟩
def e6j(e d:W):W:=⟨e.zero|||e.one&&&d.one,e.zero|||e.one&&&d.zero⟩
def e5g(s:BitVec 64×BitVec 64×BitVec 64)(w:W):BitVec 64×BitVec 64×BitVec 64:=(s.1|||(w.one &&& ~~~w.zero),s.2.1|||(w.zero &&& ~~~w.one),s.2.2 ||| ~~~(w.one|||w.zero))
def d0k(l:List W):BitVec 64×BitVec 64×BitVec 64:=l.foldl e5g (BitVec.ofInt 64 0,BitVec.ofInt 64 0,BitVec.ofInt 64 0)
def e9y(s:BitVec 64×BitVec 64×BitVec 64):W:=⟨~~~s.2.1 &&& ~~~(s.2.2|||(s.1&&&s.2.1)),~~~s.1 &&& ~~~(s.2.2|||(s.1&&&s.2.1))⟩
def d18(l:List W):W:=e9y (d0k l)
theorem c4d{l:List W}{i:Nat}{x:W}(h:l[i]?=some x):d0k (l.take (i+1))=e5g (d0k (l.take i)) x:=by unfold d0k;rw[a0v h,List.foldl_append];rfl
theorem b2t{f:W→W→W}{z:W}{l:List W}{i:Nat}{x:W}(h:l[i]?=some x):a7g f z (l.take (i+1))=f (a7g f z (l.take i)) x:=by unfold a7g;rw[a0v h,List.foldl_append];rfl
theorem e4p(l:List W):FlatR (l.map W.enc):=FlatR.map λ_=>rfl
theorem a4y(l:List W):(l.map W.enc).flatMap a0l=[]:=a0f (e4p l)
theorem a7h(π:Nat→Option Nat)(l:List W):(l.map W.enc).map (λr=>r.map (ren π))=l.map W.enc:=a0c π (e4p l)
attribute [go_sem] a4y a7h
def a1e(k:Nat):Nat:=[0,0,0,1,1,2,2,2,2,2,2,3,2,1,1,0].getD k 0
def a1m(k:Nat):Nat:=[0,0,0,1,1,16,16,16,16,16,16,3,2,16,1,0].getD k 0
def zW:W:=⟨0#64,0#64⟩
def a2a(k:Nat)(r:List W):W:=match k with
 |1=>a1i 0
 |2=>a1i 1
 |3=>r.getD 0 zW
 |4=>e0h (r.getD 0 zW)
 |5=>a7g d61 (a1i 1) r
 |6=>e0h (a7g d61 (a1i 1) r)
 |7=>a7g wOr (a1i 0) r
 |8=>e0h (a7g wOr (a1i 0) r)
 |9=>a7g d60 (a1i 0) r
 |10=>e0h (a7g d60 (a1i 0) r)
 |11=>e6k (r.getD 0 zW) (r.getD 1 zW) (r.getD 2 zW)
 |12=>e6j (r.getD 0 zW) (r.getD 1 zW)
 |_=>a1i 2
def a58(k:Nat)(l:List W):W:=
 if l.length<a1e k∨a1m k<l.length then a1i 2
 else if k=13 then d18 l
 else a2a k (l.map a69)
def rdW(l:List W)(i:Nat):List W:=(l.take i).map a69++List.replicate (l.length-i) zW
theorem c78(l:List W):rdW l 0=List.replicate l.length zW:=by simp[rdW]
theorem d27(l:List W):rdW l l.length=l.map a69:=by simp[rdW]
theorem d26{l:List W}{i:Nat}(h:i<l.length):(rdW l i)[i]?=some zW:=by unfold rdW;rw[List.getElem?_append_right (by simp;omega)];simp[List.getElem?_replicate];omega
theorem e36{l:List W}{i:Nat}{x:W}(h:l[i]?=some x):(rdW l i).set i (a69 x)=rdW l (i+1):=by
 have hi:=(List.getElem?_eq_some_iff.1 h).1;unfold rdW;rw[List.set_append_right _ _ (by simp;omega),a0v h,List.map_append,List.append_assoc]
 congr 1
 have e:l.length-i=(l.length-(i+1))+1:=by omega
 rw[e,List.replicate_succ];have e2:i-((l.take i).map a69).length=0:=by simp;omega
 rw[e2];rfl
theorem c79{l:List W}{i:Nat}{x:W}(h:l[i]?=some x):((rdW l i).map W.enc).set i [u64 (a69 x).one,u64 (a69 x).zero]=(rdW l (i+1)).map W.enc:=by rw[←e36 h,List.map_set];rfl
def e5i(n:Nat):BitVec 64:=BitVec.ofInt 64 1<<<n
def a81(w:W)(n v:Nat):W:=⟨w.one &&& ~~~e5i n|||(a1i v).one&&&e5i n,w.zero &&& ~~~e5i n|||(a1i v).zero&&&e5i n⟩
def a1o(k:Nat):Bool:=decide (1≤k)&&decide (k≤13)
end Go.Pc
/- PcSim: one cycle of a circuit, over words or over single values; lanes of words are single values. Plain definitions. -/
namespace Go.Pc
open Go.Ax
structure Alg(α:Type) where
 ev:Nat→List α→α
 z:α
 fill:Nat→α
structure Hk(α:Type) where
 net:Nat→α→α
 pin:Nat→Nat→α→α
structure Flt where
 model:Nat
 node:Nat
 pin:Int
 value:Nat
 other:Nat
def Flt.enc(f:Flt):List AV:=[.int .u8 f.model,.int .i64 f.node,.int .i64 f.pin,.int .u8 f.value,.int .i64 f.other]
structure Pat where
 ic:Rep
 ins:List Nat
 sc:Rep
 sts:List Nat
def Pat.enc(p:Pat):List AV:=[sl p.ic (p.ins.map u8R),sl p.sc (p.sts.map u8R)]
section
variable {α:Type}(A:Alg α)(nodes:List Nd)(h:Hk α)
def a0e(nodes:List Nd)(n:Nat):Nat:=(nodes[n]?.map Nd.kind).getD 0
def a15(nodes:List Nd)(n:Nat):List Nat:=(nodes[n]?.map Nd.ins).getD []
def a2h(n:Nat)(nets:List α):Nat→List Nat→List α
 |_,[]=>[]
 |p,m::r=>h.pin n p (nets.getD m A.z)::a2h n nets (p+1) r
def a0n(nets:List α)(n:Nat):List α:=a2h A h n nets 0 (a15 nodes n)
def stepG(nets:List α)(n:Nat):List α:=nets.set n (h.net n (if a0e nodes n≠0∧a0e nodes n≠14 then A.ev (a0e nodes n) (a0n A nodes h nets n)else nets.getD n A.z))
def a1l(nets:List α):List Nat→List α→List α
 |i::is,v::vs=>a1l (nets.set i v) is vs
 |_,_=>nets
def b4n(ord ins sts:List Nat)(vi vs:List α):List α:=ord.foldl (stepG A nodes h) (a1l (a1l (List.replicate nodes.length A.z) ins vi) sts vs)
def b5g(outs sts:List Nat)(nets:List α):List α:=outs.map (λn=>nets.getD n A.z)++sts.map (λn=>(a0n A nodes h nets n).getD 0 A.z)
def hk0:Hk α:=⟨λ_ w=>w,λ_ _ w=>w⟩
def a18(good:List α)(f:Flt):α:=
 if f.model=0 then A.fill f.value
 else if f.model=3 then good.getD f.other A.z
 else if f.value=0 then A.ev 5 [good.getD f.node A.z,good.getD f.other A.z]
 else A.ev 7 [good.getD f.node A.z,good.getD f.other A.z]
def Flt.hitsNet(f:Flt)(n:Nat):Bool:=decide (f.pin<0)&&(decide (n=f.node)||(decide (f.model=2)&&decide (n=f.other)))
def Flt.hitsPin(f:Flt)(n p:Nat):Bool:=decide (0≤f.pin)&&(decide (n=f.node)&&decide ((p:Int)=f.pin))
def hkF(f:Flt)(v:α):Hk α:=⟨λn w=>if f.hitsNet n then v else w,λn p w=>if f.hitsPin n p then v else w⟩
end
structure Hom{α β:Type}(A:Alg α)(B:Alg β)(φ:α→β):Prop where
 ev:∀k l,φ (A.ev k l)=B.ev k (l.map φ)
 z:φ A.z=B.z
 fill:∀v,φ (A.fill v)=B.fill v
structure HkHom{α β:Type}(φ:α→β)(h:Hk α)(k:Hk β):Prop where
 net:∀n w,φ (h.net n w)=k.net n (φ w)
 pin:∀n p w,φ (h.pin n p w)=k.pin n p (φ w)
section
variable {α β:Type}{A:Alg α}{B:Alg β}{φ:α→β}(hφ:Hom A B φ){nodes:List Nd}{h:Hk α}{k:Hk β}(hk:HkHom φ h k)
include hφ
theorem a8y(l:List α)(n:Nat):φ (l.getD n A.z)=(l.map φ).getD n B.z:=by
 simp only[List.getD_eq_getElem?_getD,List.getElem?_map];cases l[n]? with
 |none=>exact hφ.z
 |some x=>rfl
include hk
theorem b5p(n:Nat)(nets:List α):∀(l:List Nat) (p:Nat),(a2h A h n nets p l).map φ=a2h B k n (nets.map φ) p l
 | [],_=>rfl
 |m::r,p=>by simp only[a2h,List.map_cons,hk.pin,a8y hφ,b5p n nets r (p+1)]
theorem b8k(nets:List α)(n:Nat):(a0n A nodes h nets n).map φ=a0n B nodes k (nets.map φ) n:=b5p hφ hk n nets _ 0
theorem d1n(nets:List α)(n:Nat):(stepG A nodes h nets n).map φ=stepG B nodes k (nets.map φ) n:=by
 unfold stepG;rw[List.map_set,hk.net]
 congr 2
 split
 ·rw[hφ.ev,b8k hφ hk]
 ·exact a8y hφ _ _
omit hk in
omit hφ in
theorem b69:∀(is:List Nat) (vs:List α) (nets:List α),(a1l nets is vs).map φ=a1l (nets.map φ) is (vs.map φ)
 | [],vs,nets=>by cases vs<;>rfl
 |i::is,[],nets=>rfl
 |i::is,v::vs,nets=>by simp only[a1l,List.map_cons,b69 is vs,List.map_set]
theorem b1t(ord ins sts:List Nat)(vi vs:List α):(b4n A nodes h ord ins sts vi vs).map φ=b4n B nodes k ord ins sts (vi.map φ) (vs.map φ):=by
 unfold b4n;have key:∀(ord:List Nat) (n0:List α),(ord.foldl (stepG A nodes h) n0).map φ=ord.foldl (stepG B nodes k) (n0.map φ):=by
  intro ord
  induction ord with
  |nil=>intro n0;rfl
  |cons a l ih=>intro n0;simp only[List.foldl_cons,ih,d1n hφ hk]
 rw[key,b69,b69,List.map_replicate,hφ.z]
theorem b1m(outs sts:List Nat)(nets:List α):(b5g A nodes h outs sts nets).map φ=b5g B nodes k outs sts (nets.map φ):=by
 unfold b5g;simp only[List.map_append,List.map_map]
 congr 1
 ·exact List.map_congr_left λn _=>a8y hφ _ _
 ·refine List.map_congr_left λn _=>?_;simp only[Function.comp,a8y hφ,b8k hφ hk]
omit hk in
theorem b9h(good:List α)(f:Flt):φ (a18 A good f)=a18 B (good.map φ) f:=by
 unfold a18;split
 ·exact hφ.fill _
 split
 ·exact a8y hφ _ _
 split
 ·rw[hφ.ev];simp only[List.map_cons,List.map_nil,a8y hφ]
 ·rw[hφ.ev];simp only[List.map_cons,List.map_nil,a8y hφ]
omit hk hφ in
theorem c19:HkHom φ (hk0:Hk α) (hk0:Hk β):=⟨λ_ _=>rfl,λ_ _ _=>rfl⟩
omit hk hφ in
theorem d3t(f:Flt)(v:α):HkHom φ (hkF f v) (hkF f (φ v)):=⟨λn w=>by unfold hkF;dsimp only;split<;>rfl,λn p w=>by unfold hkF;dsimp only;split<;>rfl⟩
end
/-! ### single values -/
abbrev V2:=Bool×Bool
def a0k(v:Nat):V2:=match a2i v with
 |0=>(false,true)
 |1=>(true,false)
 |2=>(false,false)
 |_=>(true,true)
def c52(a b:V2):V2:=(a.1&&b.1,a.2||b.2)
def vOr(a b:V2):V2:=(a.1||b.1,a.2&&b.2)
def c50(a b:V2):V2:=(a.1&&b.2||a.2&&b.1,a.1&&b.1||a.2&&b.2)
def c00(w:V2):V2:=(w.1 && !(w.1&&w.2),w.2 && !(w.1&&w.2))
def d0w(w:V2):V2:=(w.2,w.1)
def e6m(s a b:V2):V2:=(s.2&&a.1||s.1&&b.1||a.1&&b.1,s.2&&a.2||s.1&&b.2||a.2&&b.2)
def e6l(e d:V2):V2:=(e.2||e.1&&d.1,e.2||e.1&&d.2)
def b9z(s:Bool×Bool×Bool)(w:V2):Bool×Bool×Bool:=(s.1||(w.1 && !w.2),s.2.1||(w.2 && !w.1),s.2.2 || !(w.1||w.2))
def e26(s:Bool×Bool×Bool):V2:=(!s.2.1 && !(s.2.2||(s.1&&s.2.1)),!s.1 && !(s.2.2||(s.1&&s.2.1)))
def e7y(l:List V2):V2:=e26 (l.foldl b9z (false,false,false))
def c6x(k:Nat)(r:List V2):V2:=match k with
 |1=>a0k 0
 |2=>a0k 1
 |3=>r.getD 0 (false,false)
 |4=>d0w (r.getD 0 (false,false))
 |5=>r.foldl c52 (a0k 1)
 |6=>d0w (r.foldl c52 (a0k 1))
 |7=>r.foldl vOr (a0k 0)
 |8=>d0w (r.foldl vOr (a0k 0))
 |9=>r.foldl c50 (a0k 0)
 |10=>d0w (r.foldl c50 (a0k 0))
 |11=>e6m (r.getD 0 (false,false)) (r.getD 1 (false,false)) (r.getD 2 (false,false))
 |12=>e6l (r.getD 0 (false,false)) (r.getD 1 (false,false))
 |_=>a0k 2
def c51(k:Nat)(l:List V2):V2:=
 if l.length<a1e k∨a1m k<l.length then a0k 2
 else if k=13 then e7y l
 else c6x k (l.map c00)
def a31:Alg W:=⟨a58,zW,a1i⟩
def vAlg:Alg V2:=⟨c51,(false,false),a0k⟩
def a30(j:Nat)(w:W):V2:=(w.one.getLsbD j,w.zero.getLsbD j)
section
variable {j:Nat}(hj:j<64)
include hj
theorem a8a(v:Nat):a30 j (a1i v)=a0k v:=by
 have ha:(BitVec.allOnes 64).getLsbD j=true:=by rw[BitVec.getLsbD_allOnes];simpa using hj
 have hz:(0#64).getLsbD j=false:=BitVec.getLsbD_zero;unfold a1i a0k;split<;>simp only[a30,ha,hz, *]
theorem d38(w:W):a30 j (a69 w)=c00 (a30 j w):=by simp[a69,c00,a30,hj]
omit hj in
theorem d82(a b:W):a30 j (d61 a b)=c52 (a30 j a) (a30 j b):=by simp[d61,c52,a30]
omit hj in
theorem e3z(a b:W):a30 j (wOr a b)=vOr (a30 j a) (a30 j b):=by simp[wOr,vOr,a30]
omit hj in
theorem d7x(a b:W):a30 j (d60 a b)=c50 (a30 j a) (a30 j b):=by simp[d60,c50,a30]
omit hj in
theorem d7z(a:W):a30 j (e0h a)=d0w (a30 j a):=rfl
omit hj in
theorem d80(s a b:W):a30 j (e6k s a b)=e6m (a30 j s) (a30 j a) (a30 j b):=by simp[e6k,e6m,a30]
omit hj in
theorem d7y(a b:W):a30 j (e6j a b)=e6l (a30 j a) (a30 j b):=by simp[e6j,e6l,a30]
omit hj in
theorem b1y{f:W→W→W}{g:V2→V2→V2}(h:∀a b,a30 j (f a b)=g (a30 j a) (a30 j b)):∀(l:List W) (z:W),a30 j (l.foldl f z)=(l.map (a30 j)).foldl g (a30 j z)
 | [],_=>rfl
 |a::l,z=>by simp only[List.foldl_cons,List.map_cons,b1y h l,h]
def c3f(j:Nat)(s:BitVec 64×BitVec 64×BitVec 64):Bool×Bool×Bool:=(s.1.getLsbD j,s.2.1.getLsbD j,s.2.2.getLsbD j)
theorem d3b(s:BitVec 64×BitVec 64×BitVec 64)(w:W):c3f j (e5g s w)=b9z (c3f j s) (a30 j w):=by simp[c3f,e5g,b9z,a30,hj]
theorem d3c(s:BitVec 64×BitVec 64×BitVec 64):a30 j (e9y s)=e26 (c3f j s):=by simp[c3f,e9y,e26,a30,hj]
theorem d81(l:List W):a30 j (d18 l)=e7y (l.map (a30 j)):=by
 unfold d18 e7y d0k;rw[d3c hj]
 congr 1
 have key:∀(l:List W) s,c3f j (l.foldl e5g s)=(l.map (a30 j)).foldl b9z (c3f j s):=by
  intro l
  induction l with
  |nil=>intro s;rfl
  |cons a l ih=>intro s;simp only[List.foldl_cons,List.map_cons,ih,d3b hj]
 rw[key]
 congr 1
 simp[c3f]
omit hj in
theorem d39(l:List W)(n:Nat):a30 j (l.getD n zW)=(l.map (a30 j)).getD n (false,false):=by
 simp only[List.getD_eq_getElem?_getD,List.getElem?_map];cases l[n]? with
 |none=>simp[a30,zW]
 |some x=>rfl
theorem c9n(k:Nat)(l:List W):a30 j (a2a k l)=c6x k (l.map (a30 j)):=by unfold a2a c6x;split<;>simp only[a8a hj,d7z,d80,d7y,d39,a7g,b1y d82,b1y e3z,b1y d7x]
theorem d3a(k:Nat)(l:List W):a30 j (a58 k l)=c51 k (l.map (a30 j)):=by
 unfold a58 c51;rw[List.length_map];split
 ·exact a8a hj 2
 split
 ·exact d81 hj l
 ·rw[c9n hj,List.map_map,List.map_map]
  congr 1
  exact List.map_congr_left λw _=>d38 hj w
theorem e40:Hom a31 vAlg (a30 j):=⟨d3a hj,by simp[a31,vAlg,a30,zW],a8a hj⟩
end
/-! ### contradictions -/
def ctr(x y:W):BitVec 64:=(x.one &&& ~~~x.zero&&&y.zero &&& ~~~y.one)|||(x.zero &&& ~~~x.one&&&y.one &&& ~~~y.zero)
def f0l(x y:V2):Bool:=(x.1 && !x.2&&y.2 && !y.1)||(x.2 && !x.1&&y.1 && !y.2)
def c25:List W→List W→BitVec 64→BitVec 64
 |x::xs,y::ys,s=>c25 xs ys (s|||ctr x y)
 |_,_,s=>s
def c29:List V2→List V2→Bool→Bool
 |x::xs,y::ys,s=>c29 xs ys (s||f0l x y)
 |_,_,s=>s
theorem c3e{j:Nat}(hj:j<64):∀(a b:List W) (s:BitVec 64),(c25 a b s).getLsbD j=c29 (a.map (a30 j)) (b.map (a30 j)) (s.getLsbD j)
 | [],b,s=>by cases b<;>rfl
 |x::xs,[],s=>rfl
 |x::xs,y::ys,s=>by
  simp only[c25,c29,List.map_cons,c3e hj xs ys]
  congr 1
  simp[ctr,f0l,a30,hj]
/-! ### a circuit -/
structure Sim where
 nodes:List Nd
 ord:List Nat
 ins:List Nat
 sts:List Nat
 outs:List Nat
section
variable {α:Type}(A:Alg α)(S:Sim)
def Sim.nets(h:Hk α)(vi vs:List α):List α:=b4n A S.nodes h S.ord S.ins S.sts vi vs
def Sim.seen(h:Hk α)(nets:List α):List α:=b5g A S.nodes h S.outs S.sts nets
end
def Sim.det(S:Sim)(f:Flt)(p:Pat):Bool:=
 let vi:=p.ins.map a0k
 let vs:=p.sts.map a0k
 let good:=S.nets vAlg hk0 vi vs
 let h:=hkF f (a18 vAlg good f)
 c29 (S.seen vAlg hk0 good) (S.seen vAlg h (S.nets vAlg h vi vs)) false
end Go.Pc
/- PcWf: the circuits of the statements are valid. Plain. -/
namespace Go.Pc
open Go.Ax
structure Cir.wf(c:Cir):Prop where
 pos:0<c.nodes.length
 len:c.nodes.length≤14
 names:c.names=(List.range c.nodes.length).map a4o
 kind:∀x∈c.nodes,x.kind≤14
 lo:∀x∈c.nodes,a1e x.kind≤x.ins.length
 hi:∀x∈c.nodes,x.ins.length≤a1m x.kind
 ins:∀x∈c.nodes,∀m∈x.ins,m<c.nodes.length
 bus:∀x∈c.nodes,x.kind=13→∀m∈x.ins,a0e c.nodes m=12
 mem:∀x∈c.nodes,x.mem=0∧x.bit=0
 acyc:∀(i:Nat) (x:Nd),c.nodes[i]?=some x→a1o x.kind=true→∀m∈x.ins,m<i
 outs:∀o∈c.outs,o<c.nodes.length
 outl:c.outs.length≤4
theorem e4s{k:Nat}(h:k<6):a1e (5+k)=2∧a1m (5+k)=16:=by
 have:k=0∨k=1∨k=2∨k=3∨k=4∨k=5:=by omega
 rcases this with rfl|rfl|rfl|rfl|rfl|rfl<;>exact⟨rfl,rfl⟩
structure GateOk(ks:List Nat)(x:Nd):Prop where
 k1:1≤x.kind
 k13:x.kind≤13
 lo:a1e x.kind≤x.ins.length
 hi:x.ins.length≤a1m x.kind
 ins:∀m∈x.ins,m<ks.length
 bus:x.kind=13→∀m∈x.ins,ks[m]?=some 12
 mem:x.mem=0∧x.bit=0
theorem c6y{ks:List Nat}{i:Nat}(h:i<(b0o ks).length):(b0o ks).getD i 0<ks.length∧ks[(b0o ks).getD i 0]?=some 12:=by
 have:(b0o ks).getD i 0∈b0o ks:=by rw[List.getD,List.getElem?_eq_getElem h];exact List.getElem_mem h
 exact c8s this
theorem d3y(bus:Bool)(g:GX)(ks:List Nat)(hp:0<ks.length):GateOk ks (a0p bus g ks):=by
 have a:=Nat.mod_lt g.i0 hp;have b:=Nat.mod_lt g.i1 hp;have d:=Nat.mod_lt g.i2 hp;unfold a0p;dsimp only;generalize(if bus=true then g.kind%13 else g.kind%9)=kind;split
 ·rename_i h6;obtain⟨e1,e2⟩:=e4s h6;split
  ·exact⟨by dsimp only;omega,by dsimp only;omega,by simp[e1],by simp[e2],by simp[a,b,d],by dsimp only;omega,⟨rfl,rfl⟩⟩
  ·exact⟨by dsimp only;omega,by dsimp only;omega,by simp[e1],by simp[e2],by simp[a,b],by dsimp only;omega,⟨rfl,rfl⟩⟩
 split
 ·exact⟨by dsimp only;omega,by dsimp only;omega,by simp[a1e],by simp[a1m],by simp[a],by simp,⟨rfl,rfl⟩⟩
 split
 ·exact⟨by dsimp only;omega,by dsimp only;omega,by simp[a1e],by simp[a1m],by simp[a,b,d],by simp,⟨rfl,rfl⟩⟩
 split
 ·exact⟨by dsimp only;omega,by dsimp only;omega,by simp[a1e],by simp[a1m],by simp[a,b],by simp,⟨rfl,rfl⟩⟩
 split
 ·rename_i h;have t0:=c6y (Nat.mod_lt g.i0 h.2);split
  ·have t1:=c6y (Nat.mod_lt (g.i0%(b0o ks).length+1) h.2);refine⟨by dsimp only;omega,by dsimp only;omega,by simp[a1e],by simp[a1m],?_,?_,⟨rfl,rfl⟩⟩
   ·intro m hm;simp only[List.mem_cons,List.not_mem_nil,or_false]at hm;rcases hm with rfl|rfl;exact t0.1;exact t1.1
   ·intro _ m hm;simp only[List.mem_cons,List.not_mem_nil,or_false]at hm;rcases hm with rfl|rfl;exact t0.2;exact t1.2
  ·refine⟨by dsimp only;omega,by dsimp only;omega,by simp[a1e],by simp[a1m],?_,?_,⟨rfl,rfl⟩⟩
   ·intro m hm;simp only[List.mem_cons,List.not_mem_nil,or_false]at hm;subst hm;exact t0.1
   ·intro _ m hm;simp only[List.mem_cons,List.not_mem_nil,or_false]at hm;subst hm;exact t0.2
 split
 ·have:g.i0%2=0∨g.i0%2=1:=by omega
  rcases this with h|h<;>rw[h]<;>exact⟨by dsimp only;omega,by dsimp only;omega,by simp[a1e],by simp[a1m],by simp,by simp,⟨rfl,rfl⟩⟩
 ·exact⟨by dsimp only;omega,by dsimp only;omega,by simp[a1e],by simp[a1m],by simp[a],by simp,⟨rfl,rfl⟩⟩
theorem e1c(bus:Bool):∀(l:List GX) (ks:List Nat) (i:Nat) (x:Nd),(gN bus ks l)[i]?=some x→∃g,x=a0p bus g (ks++((gN bus ks l).take i).map Nd.kind)
 | [],ks,i,x,h=>by simp[gN]at h
 |g::l,ks,0,x,h=>by simp only[gN,List.getElem?_cons_zero,Option.some.injEq]at h;exact⟨g,by rw[←h];simp⟩
 |g::l,ks,i+1,x,h=>by simp only[gN,List.getElem?_cons_succ]at h;obtain⟨g',hg⟩:=e1c bus l _ i x h;exact⟨g',by rw[hg];simp[gN]⟩
theorem CX.dn_len(x:CX):x.dn.length=x.d:=by have:x.d<3:=Nat.mod_lt _ (by omega);unfold CX.dn;rw[List.length_map,List.length_take];simp;omega
theorem CX.nodes_len(x:CX):x.nodes.length=x.n:=by unfold CX.nodes CX.n;rw[List.length_append,List.length_append,List.length_replicate,x.dn_len,a6i]
theorem CX.dn_kind(x:CX):x.dn.map Nd.kind=List.replicate x.d 14:=by
 have:x.d=0∨x.d=1∨x.d=2:=by have:x.d<3:=Nat.mod_lt _ (by omega);omega
 unfold CX.dn;rcases this with h|h|h<;>rw[h]<;>rfl
theorem CX.base_len(x:CX):x.base.length=x.k+x.d:=by unfold CX.base;simp
theorem CX.kinds(x:CX):x.nodes.map Nd.kind=x.base++(gN x.bus x.base x.gs).map Nd.kind:=by unfold CX.nodes CX.base;rw[List.map_append,List.map_append,List.map_replicate,x.dn_kind];rfl
theorem CX.node_cases(x:CX){i:Nat}{nd:Nd}(h:x.nodes[i]?=some nd):nd=c60∨(∃v,nd=b1c (v%x.n))∨GateOk ((x.nodes.map Nd.kind).take i) nd:=by
 unfold CX.nodes at h;by_cases h1:i<x.k
 ·rw[List.append_assoc,List.getElem?_append_left (by simpa using h1),List.getElem?_replicate,if_pos h1]at h;exact .inl (Option.some.inj h).symm
 rw[List.append_assoc,List.getElem?_append_right (by simpa using h1),List.length_replicate]at h;by_cases h2:i-x.k<x.d
 ·rw[List.getElem?_append_left (by rw[x.dn_len];exact h2)]at h;unfold CX.dn at h;rw[List.getElem?_map]at h;cases hv:([x.d0,x.d1].take x.d)[i-x.k]? with
  |none=>rw[hv]at h;cases h
  |some v=>rw[hv]at h;exact .inr (.inl ⟨v,(Option.some.inj h).symm⟩)
 ·rw[List.getElem?_append_right (by rw[x.dn_len];omega),x.dn_len]at h;obtain⟨g,hg⟩:=e1c _ _ _ _ _ h;refine .inr (.inr ?_);have e:(x.nodes.map Nd.kind).take i=x.base++((gN x.bus x.base x.gs).take (i-x.k-x.d)).map Nd.kind:=by
   rw[x.kinds,List.take_append,List.take_of_length_le (by rw[x.base_len];omega),x.base_len,List.map_take]
   congr 2;omega
  rw[e,hg];exact d3y _ _ _ (by
   rw[List.length_append,x.base_len];have:0<x.k:=by unfold CX.k;omega
   omega)
theorem CX.wf(x:CX):x.cir.wf:=by
 have hn:=x.nodes_len;have hk:x.k≤4∧0<x.k:=by unfold CX.k;omega
 have hd:x.d<3:=Nat.mod_lt _ (by omega);have hg:x.gs.length≤8:=by unfold CX.gs;rw[List.length_take];omega
 have bp:x.n=x.k+x.d+x.gs.length:=rfl;have key:∀nd∈x.nodes,∃i,x.nodes[i]?=some nd∧i<x.n:=by intro nd h;obtain⟨i,hi⟩:=List.mem_iff_getElem?.1 h;exact⟨i,hi,by rw[←hn];exact(List.getElem?_eq_some_iff.1 hi).1⟩
 have hl:∀i,i<x.n→((x.nodes.map Nd.kind).take i).length=i:=λi hi=>by rw[List.length_take,List.length_map,hn];omega
 have iT:∀nd∈x.nodes,nd=c60∨(∃v,nd=b1c (v%x.n))∨∃i,i<x.n∧GateOk ((x.nodes.map Nd.kind).take i) nd:=by
  intro nd h;obtain⟨i,hi,ah⟩:=key nd h;rcases x.node_cases hi with h|h|h
  ·exact .inl h
  ·exact .inr (.inl h)
  ·exact .inr (.inr ⟨i,ah,h⟩)
 refine⟨by show 0<x.nodes.length;omega,by show x.nodes.length≤14;omega,by show x.names=_;rw[show x.cir.nodes=x.nodes from rfl,hn];rfl,?_,?_,?_,?_,?_,?_,?_,?_,?_⟩
 ·intro nd h;rcases iT nd h with rfl|⟨v,rfl⟩|⟨i,hi,h⟩
  ·decide
  ·exact Nat.le_refl 14
  ·have:=h.k13;omega
 ·intro nd h;rcases iT nd h with rfl|⟨v,rfl⟩|⟨i,hi,h⟩
  ·decide
  ·exact Nat.le_refl 1
  ·exact h.lo
 ·intro nd h;rcases iT nd h with rfl|⟨v,rfl⟩|⟨i,hi,h⟩
  ·decide
  ·exact Nat.le_refl 1
  ·exact h.hi
 ·intro nd h m hm;show m<x.nodes.length;rw[hn];rcases iT nd h with rfl|⟨v,rfl⟩|⟨i,hi,h⟩
  ·simp[c60]at hm
  ·simp only[b1c,List.mem_cons,List.not_mem_nil,or_false]at hm;subst hm;exact Nat.mod_lt _ (by omega)
  ·have:=h.ins m hm;rw[hl i hi]at this;omega
 ·intro nd h h13 m hm;rcases iT nd h with rfl|⟨v,rfl⟩|⟨i,hi,h⟩
  ·simp[c60]at hm
  ·simp[b1c]at h13
  ·have h1:=h.bus h13 m hm;have h2:=h.ins m hm;rw[hl i hi]at h2;rw[List.getElem?_take,if_pos h2,List.getElem?_map]at h1;show a0e x.nodes m=12;unfold a0e;rw[h1];rfl
 ·intro nd h;rcases iT nd h with rfl|⟨v,rfl⟩|⟨i,hi,h⟩
  ·exact⟨rfl,rfl⟩
  ·exact⟨rfl,rfl⟩
  ·exact h.mem
 ·intro i nd h hc m hm;have ah:i<x.n:=by rw[←hn];exact(List.getElem?_eq_some_iff.1 h).1
  rcases x.node_cases h with rfl|⟨v,rfl⟩|h
  ·simp[c60]at hm
  ·simp[b1c,a1o]at hc
  ·have:=h.ins m hm;rw[hl i ah]at this;exact this
 ·intro o ho;show o<x.nodes.length;rw[hn];have ho:o∈x.outN:=ho;unfold CX.outN at ho;simp only[List.mem_append,List.mem_map,List.mem_cons,List.not_mem_nil,or_false]at ho;rcases ho with ⟨a,_,rfl⟩|rfl
  ·exact Nat.mod_lt _ (by omega)
  ·omega
 ·show x.outN.length≤4;unfold CX.outN;simp;omega
end Go.Pc
/- PcFan: which pins read a net. Plain. -/
namespace Go.Pc
open Go.Ax
def a9x(l:Nat×Nat):List AV:=[.int .i64 l.1,.int .i64 l.2]
def cnt(L:List (Nat×Nat))(a:Nat):Nat:=(L.map (·.1)).count a
structure FoOk(nodes:List Nd)(i k:Nat)(fo:List (List (Nat×Nat))):Prop where
 len:fo.length=nodes.length
 num:∀(j:Nat) (L:List (Nat×Nat)),fo[j]?=some L→∀a,cnt L a=if a<i then(a15 nodes a).count j else if a=i then((a15 nodes i).take k).count j else 0
theorem FoOk.zero(nodes:List Nd):FoOk nodes 0 0 (List.replicate nodes.length []):=by
 refine⟨by simp,λj L h a=>?_⟩;rw[List.getElem?_replicate]at h;split at h
 ·cases h;simp[Pc.cnt]
 ·cases h
theorem FoOk.step{nodes:List Nd}{i k m:Nat}{fo:List (List (Nat×Nat))}{L:List (Nat×Nat)}(h:FoOk nodes i k fo)(hm:(a15 nodes i)[k]?=some m)(hL:fo[m]?=some L):FoOk nodes i (k+1) (fo.set m (L++[(i,k)])):=by
 refine⟨by rw[List.length_set,h.len],λj L' hj a=>?_⟩;have ht:=a0v hm;rw[List.getElem?_set]at hj;have cH:m<fo.length:=(List.getElem?_eq_some_iff.1 hL).1;by_cases qT:m=j
 ·subst qT;simp only[if_true,cH,Option.some.injEq]at hj;subst hj;have:=h.num m L hL a;have e:Pc.cnt (L++[(i,k)]) a=Pc.cnt L a+if i=a then 1 else 0:=by
   unfold Pc.cnt;rw[List.map_append,List.count_append];by_cases kM:i=a
   ·subst kM;simp
   ·simp[kM,List.count_cons]
  rw[e,this,ht];by_cases h1:a<i
  ·simp[h1];omega
  ·by_cases h2:a=i
   ·subst h2;simp
   ·simp[h1,h2];omega
 ·rw[if_neg qT]at hj;have:=h.num j L' hj a;rw[this,ht];by_cases h1:a<i
  ·simp[h1]
  ·by_cases h2:a=i
   ·subst h2;simp[List.count_append,List.count_cons,qT]
   ·simp[h1,h2]
theorem FoOk.next{nodes:List Nd}{i k:Nat}{fo:List (List (Nat×Nat))}(h:FoOk nodes i k fo)(hk:k=(a15 nodes i).length):FoOk nodes (i+1) 0 fo:=by
 refine⟨h.len,λj L hj a=>?_⟩;rw[h.num j L hj a];subst hk;rw[List.take_length];by_cases h1:a<i
 ·simp[h1,show a<i+1 by omega]
 ·by_cases h2:a=i
  ·subst h2;simp
  ·simp[h1,h2,show ¬a<i+1 by omega]
theorem a1c{nodes:List Nd}{i:Nat}{x:Nd}(h:nodes[i]?=some x):a15 nodes i=x.ins:=by simp[a15,h]
theorem d36(n:Nat):∀(L:List (Nat×Nat)),(∀l∈L,l.1<n)→L.length=((List.range n).map λa=>cnt L a).sum
 | [],_=>by
  have:∀l:List Nat,(l.map λa=>cnt [] a).sum=0:=by intro l;induction l with|nil=>rfl|cons a l ih=>rw[List.map_cons,List.sum_cons,ih];rfl
  rw[this];rfl
 |x::L,h=>by
  have ih:=d36 n L (λl hl=>h l (by simp[hl]));have hx:=h x (by simp);have e:∀a,cnt (x::L) a=cnt L a+if x.1=a then 1 else 0:=λa=>by unfold cnt;rw[List.map_cons,List.count_cons];simp[beq_iff_eq]
  have s:∀(l:List Nat),l.Nodup→(l.map λa=>cnt (x::L) a).sum=(l.map λa=>cnt L a).sum+if x.1∈l then 1 else 0:=by
   intro l
   induction l with
   |nil=>intro _;rfl
   |cons a l ih2=>
    intro hn;rw[List.nodup_cons]at hn;simp only[List.map_cons,List.sum_cons,e a,ih2 hn.2,List.mem_cons];by_cases h1:x.1=a
    ·subst h1;simp[hn.1];omega
    ·simp[h1];omega
  rw[s _ List.nodup_range,if_pos (by simpa using hx),List.length_cons,ih]
theorem FoOk.node{nodes:List Nd}{i k j:Nat}{fo:List (List (Nat×Nat))}{L:List (Nat×Nat)}(h:FoOk nodes i k fo)(hL:fo[j]?=some L)(hi:i≤nodes.length):∀l∈L,l.1<nodes.length:=by
 intro l hl;have hc:=h.num j L hL l.1;have hp:0<cnt L l.1:=by unfold cnt;exact List.count_pos_iff.2 (List.mem_map.2 ⟨l,hl,rfl⟩)
 by_cases h1:l.1<i
 ·omega
 ·rw[if_neg h1]at hc;by_cases h2:l.1=i
  ·rw[if_pos h2]at hc;cases hx:nodes[i]? with
   |none=>simp[a15,hx]at hc;omega
   |some x=>have:=(List.getElem?_eq_some_iff.1 hx).1;omega
  ·rw[if_neg h2]at hc;omega
theorem FoOk.total{nodes:List Nd}{i k j:Nat}{fo:List (List (Nat×Nat))}{L:List (Nat×Nat)}(h:FoOk nodes i k fo)(hL:fo[j]?=some L)(hn:nodes.length≤14)(hx:∀y∈nodes,y.ins.length≤16)(hi:i≤nodes.length:=by omega):L.length≤224:=by
 have hb:∀a,cnt L a≤16:=by
  intro a;have gt:(a15 nodes a).length≤16:=by
   unfold a15;cases gW:nodes[a]? with
   |none=>simp
   |some x=>exact hx x (List.mem_of_getElem? gW)
  rw[h.num j L hL a];split
  ·exact Nat.le_trans List.count_le_length gt
  split
  ·rename_i e;subst e;refine Nat.le_trans List.count_le_length ?_;rw[List.length_take];omega
  ·omega
 rw[d36 nodes.length L (h.node hL hi)];have s:∀l:List Nat,(l.map λa=>cnt L a).sum≤16*l.length:=by
  intro l
  induction l with
  |nil=>simp
  |cons a l ih=>have:=hb a;simp only[List.map_cons,List.sum_cons,List.length_cons];omega
 have:=s (List.range nodes.length);rw[List.length_range]at this;omega
theorem Cir.wf.insl{c:Cir}(h:c.wf){x:Nd}(hx:x∈c.nodes):x.ins.length≤16:=by
 have k14:=h.kind x hx;have jS:=h.hi x hx;have:a1m x.kind≤16:=by
  have hk:x.kind=0∨x.kind=1∨x.kind=2∨x.kind=3∨x.kind=4∨x.kind=5∨x.kind=6∨x.kind=7∨x.kind=8∨x.kind=9∨x.kind=10∨x.kind=11∨x.kind=12∨x.kind=13∨x.kind=14:=by omega
  rcases hk with e|e|e|e|e|e|e|e|e|e|e|e|e|e|e<;>rw[e]<;>decide
 omega
end Go.Pc
/- PcKahn: the order in which nodes become ready. Plain. -/
namespace Go.Pc
open Go.Ax
def c23(nodes:List Nd)(ready:List Nat)(done a:Nat):Nat:=((a15 nodes a).filter λm=>decide (m∉ready.take done)).length
structure Kahn(nodes:List Nd)(left ready:List Nat)(done:Nat)(L:List (Nat×Nat)):Prop where
 ll:left.length=nodes.length
 rn:∀r∈ready,r<nodes.length
 nd:ready.Nodup
 dle:done≤ready.length
 eq:∀a,a<nodes.length→a1o (a0e nodes a)=true→left.getD a 0+cnt L a=c23 nodes ready done a
 nc:∀a,a<nodes.length→a1o (a0e nodes a)=false→left.getD a 0=0
 zero:∀a,a<nodes.length→(a∈ready↔left.getD a 0=0)
def b1u(nodes:List Nd)(a:Nat):Nat:=if a1o (a0e nodes a)then(a15 nodes a).length else 0
def a3z(nodes:List Nd)(i:Nat):List Nat:=(List.range nodes.length).map λj=>if j<i then b1u nodes j else 0
def a4s(nodes:List Nd)(i:Nat):List Nat:=(List.range i).filter λj=>decide (b1u nodes j=0)
theorem c2m(nodes:List Nd)(i:Nat):a4s nodes (i+1)=if b1u nodes i=0 then a4s nodes i++[i]else a4s nodes i:=by unfold a4s;rw[List.range_succ,List.filter_append];by_cases h:b1u nodes i=0<;>simp[h]
theorem c95(nodes:List Nd)(i:Nat):(a4s nodes i).length≤i:=Nat.le_trans (List.length_filter_le _ _) (by simp)
theorem c5s(nodes:List Nd):a3z nodes 0=List.replicate nodes.length 0:=by
 apply List.ext_getElem?;intro j;simp only[a3z,List.getElem?_map,List.getElem?_replicate,Nat.not_lt_zero,if_false];by_cases h:j<nodes.length
 ·rw[List.getElem?_range h];simp[h]
 ·rw[List.getElem?_eq_none (by simpa using h)];simp[h]
theorem a6v{nodes:List Nd}{i j:Nat}(h:j<nodes.length):(a3z nodes i)[j]?=some (if j<i then b1u nodes j else 0):=by simp[a3z,List.getElem?_range h]
theorem b6g{nodes:List Nd}{i:Nat}(h:i<nodes.length):(a3z nodes i).set i (b1u nodes i)=a3z nodes (i+1):=by
 apply List.ext_getElem?;intro j;rw[List.getElem?_set];by_cases hj:j<nodes.length
 ·rw[a6v hj,a6v hj];by_cases bX:i=j
  ·subst bX;simp[a3z,h]
  ·by_cases h2:j<i
   ·simp[bX,h2,show j<i+1 by omega]
   ·simp[bX,h2,show ¬j<i+1 by omega]
 ·have e:∀i,(a3z nodes i)[j]?=none:=λi=>List.getElem?_eq_none (by simp[a3z];omega);rw[e,e];have:i≠j:=by omega
  simp[this]
theorem c5t{nodes:List Nd}{i:Nat}(h:i<nodes.length)(h0:b1u nodes i=0):a3z nodes i=a3z nodes (i+1):=by
 rw[←b6g h];apply List.ext_getElem?;intro j;rw[List.getElem?_set];by_cases bX:i=j
 ·subst bX;rw[a6v h];simp[a3z,h,h0]
 ·simp[bX]
theorem Kahn.start(nodes:List Nd):Kahn nodes (a3z nodes nodes.length) (a4s nodes nodes.length) 0 []:=by
 have hg:∀a,a<nodes.length→(a3z nodes nodes.length).getD a 0=b1u nodes a:=by intro a ha;rw[List.getD,a6v ha];simp[ha]
 refine⟨by simp[a3z],?_,?_,Nat.zero_le _,?_,?_,?_⟩
 ·intro r hr;unfold a4s at hr;rw[List.mem_filter]at hr;simpa using hr.1
 ·exact List.nodup_range.filter _
 ·intro a ha hc;rw[hg a ha];have e:∀l:List Nat,(l.filter λm=>decide (m∉([]:List Nat)))=l:=λl=>List.filter_eq_self.2 (λm _=>by simp);simp only[b1u,hc,if_true,c23,cnt,List.map_nil,List.count_nil,List.take_zero,Nat.add_zero];exact(congrArg List.length (e _)).symm
 ·intro a ha hc;rw[hg a ha];simp[b1u,hc]
 ·intro a ha;rw[hg a ha];unfold a4s;rw[List.mem_filter];simp[ha]
section
variable {nodes:List Nd}{left ready:List Nat}{done:Nat}{L:List (Nat×Nat)}
theorem c1p(L:List (Nat×Nat))(a p b:Nat):cnt (L++[(a,p)]) b=cnt L b+if a=b then 1 else 0:=by
 unfold cnt;rw[List.map_append,List.count_append];by_cases kM:a=b
 ·subst kM;simp
 ·simp[kM,List.count_cons]
theorem Kahn.skip(h:Kahn nodes left ready done L){a p:Nat}(hc:a1o (a0e nodes a)=false):Kahn nodes left ready done (L++[(a,p)]):=by
 refine⟨h.ll,h.rn,h.nd,h.dle,?_,h.nc,h.zero⟩;intro b hb dz;have:a≠b:=λe=>by subst e;rw[hc]at dz;cases dz
 rw[c1p,if_neg this,Nat.add_zero];exact h.eq b hb dz
theorem d76{ready:List Nat}{done x a:Nat}(h:done≤ready.length):c23 nodes (ready++[x]) done a=c23 nodes ready done a:=by unfold c23;rw[List.take_append_of_le_length h]
theorem Kahn.pos(h:Kahn nodes left ready done L){a p:Nat}(ha:a<nodes.length)(hc:a1o (a0e nodes a)=true)(j1:cnt (L++[(a,p)]) a≤c23 nodes ready done a):0<left.getD a 0:=by have:=h.eq a ha hc;rw[c1p,if_pos rfl]at j1;omega
theorem Kahn.dec(h:Kahn nodes left ready done L){a p:Nat}(ha:a<nodes.length)(hc:a1o (a0e nodes a)=true)(j1:cnt (L++[(a,p)]) a≤c23 nodes ready done a) :
 Kahn nodes (left.set a (left.getD a 0-1)) (if left.getD a 0-1=0 then ready++[a]else ready) done (L++[(a,p)]):=by
 have aX:=h.pos ha hc j1;have eL:a<left.length:=by rw[h.ll];exact ha
 have aI:∀b,(left.set a (left.getD a 0-1)).getD b 0=if a=b then left.getD a 0-1 else left.getD b 0:=by
  intro b;simp only[List.getD_eq_getElem?_getD,List.getElem?_set];by_cases bu:a=b
  ·subst bu;simp[eL]
  ·simp[bu]
 have jL:a∉ready:=λhm=>by have:=(h.zero a ha).1 hm;omega
 have fu:∀b,c23 nodes (if left.getD a 0-1=0 then ready++[a]else ready) done b=c23 nodes ready done b:=by
  intro b;split
  ·exact d76 h.dle
  ·rfl
 refine⟨by rw[List.length_set,h.ll],?_,?_,?_,?_,?_,?_⟩
 ·intro r hr;split at hr
  ·simp only[List.mem_append,List.mem_singleton]at hr;rcases hr with hr|rfl
   ·exact h.rn r hr
   ·exact ha
  ·exact h.rn r hr
 ·split
  ·rw[List.nodup_append];refine⟨h.nd,by simp,?_⟩;intro x hx y hy;simp only[List.mem_singleton]at hy;subst hy;exact λe=>jL (e▸hx)
  ·exact h.nd
 ·split
  ·have:=h.dle;simp;omega
  ·exact h.dle
 ·intro b hb dz;rw[aI,fu,c1p];have:=h.eq b hb dz;by_cases bu:a=b
  ·subst bu;rw[if_pos rfl,if_pos rfl];omega
  ·rw[if_neg bu,if_neg bu,Nat.add_zero];exact this
 ·intro b hb dz;have:a≠b:=λe=>by subst e;rw[hc]at dz;cases dz
  rw[aI,if_neg this];exact h.nc b hb dz
 ·intro b hb;rw[aI];by_cases bu:a=b
  ·subst bu;rw[if_pos rfl];split
   ·rename_i e;exact⟨λ_=>e,λ_=>by simp⟩
   ·rename_i e;exact⟨λhm=>absurd hm jL,λe'=>absurd e' e⟩
  ·rw[if_neg bu];rw[←h.zero b hb];split
   ·simp[Ne.symm bu]
   ·rfl
theorem a7v(l:List Nat)(S:List Nat)(x:Nat)(hx:x∉S):(l.filter λm=>decide (m∉S)).length=(l.filter λm=>decide (m∉S++[x])).length+l.count x:=by
 induction l with
 |nil=>rfl
 |cons a l ih=>
  simp only[List.filter_cons,List.count_cons];by_cases oY:a=x
  ·subst oY;simp[hx]at ih⊢;omega
  ·by_cases tA:a∈S
   ·simp[tA,oY]at ih⊢;omega
   ·simp[tA,oY]at ih⊢;omega
theorem Kahn.next(h:Kahn nodes left ready done L){x:Nat}(hx:ready[done]?=some x)(hL:∀a,a<nodes.length→cnt L a=(a15 nodes a).count x):Kahn nodes left ready (done+1) []:=by
 have gO:=(List.getElem?_eq_some_iff.1 hx).1;have ht:=a0v hx;have eX:x∉ready.take done:=by
  intro hm;obtain⟨i,hi⟩:=List.mem_iff_getElem?.1 hm;rw[List.getElem?_take]at hi;split at hi
  case isFalse=>cases hi
  have:=(List.getElem?_inj (by omega) h.nd).1 (hi.trans hx.symm);omega
 refine⟨h.ll,h.rn,h.nd,by omega,?_,h.nc,h.zero⟩;intro a ha hc;have:=h.eq a ha hc;rw[hL a ha]at this;unfold c23 at this⊢;rw[ht];rw[a7v _ _ x eX]at this;simp only[cnt,List.map_nil,List.count_nil];omega
theorem e3d{ready:List Nat}{done x a:Nat}(nd:ready.Nodup)(hx:ready[done]?=some x):(a15 nodes a).count x≤c23 nodes ready done a:=by
 have gO:=(List.getElem?_eq_some_iff.1 hx).1;have eX:x∉ready.take done:=by
  intro hm;obtain⟨i,hi⟩:=List.mem_iff_getElem?.1 hm;rw[List.getElem?_take]at hi;split at hi
  case isFalse=>cases hi
  have:=(List.getElem?_inj (by omega) nd).1 (hi.trans hx.symm);omega
 unfold c23;rw[a7v _ _ x eX];omega
theorem Kahn.all(h:Kahn nodes left ready ready.length [])(tz:∀(i:Nat) (x:Nd),nodes[i]?=some x→a1o x.kind=true→∀m∈x.ins,m<i):nodes.length≤ready.length:=by
 have key:∀n a,a≤n→a<nodes.length→a∈ready:=by
  intro n
  induction n with
  |zero=>
   intro a j5 ha;obtain rfl:a=0:=by omega
   rw[h.zero 0 ha];cases hc:a1o (a0e nodes 0)with
   |false=>exact h.nc 0 ha hc
   |true=>
    obtain⟨x,hx⟩:∃x,nodes[0]?=some x:=⟨_,List.getElem?_eq_getElem ha⟩
    have he:=h.eq 0 ha hc;have hk:a0e nodes 0=x.kind:=by simp[a0e,hx]
    rw[hk]at hc;have hi:a15 nodes 0=[]:=by
     simp only[a15,hx,Option.map_some,Option.getD_some];cases gt:x.ins with
     |nil=>rfl
     |cons m r=>have:=tz 0 x hx hc m (by simp[gt]);omega
    have:c23 nodes ready ready.length 0=0:=by simp[c23,hi]
    omega
  |succ n ih=>
   intro a j5 ha;rw[h.zero a ha];cases hc:a1o (a0e nodes a)with
   |false=>exact h.nc a ha hc
   |true=>
    obtain⟨x,hx⟩:∃x,nodes[a]?=some x:=⟨_,List.getElem?_eq_getElem ha⟩
    have he:=h.eq a ha hc;have hk:a0e nodes a=x.kind:=by simp[a0e,hx]
    rw[hk]at hc;have hi:a15 nodes a=x.ins:=a1c hx;have:c23 nodes ready ready.length a=0:=by unfold c23;rw[hi,List.take_length,List.length_eq_zero_iff,List.filter_eq_nil_iff];intro m hm;have h1:=tz a x hx hc m hm;have h2:=ih m (by omega) (by omega);simp[h2]
    omega
 have:=b6f (l:=List.range nodes.length) (T:=ready) List.nodup_range (λa ha=>key a a (Nat.le_refl _) (by simpa using ha));simpa using this
theorem Kahn.bound(h:Kahn nodes left ready done L):ready.length≤nodes.length:=by have:=b6f h.nd (T:=List.range nodes.length) (λa ha=>by simpa using h.rn a ha);simpa using this
end
end Go.Pc
/- PcPerm: exchanging neighbours. Plain. -/
namespace Go.Pc
theorem d1e{l:List Nat}{j x y:Nat}(hj:l[j+1]?=some x)(hi:l[j]?=some y):((l.set (j+1) y).set j x).Perm l:=by
 induction l generalizing j with
 |nil=>simp at hj
 |cons a l ih=>
  cases j with
  |zero=>
   cases l with
   |nil=>simp at hj
   |cons b l=>simp only[List.getElem?_cons_succ,List.getElem?_cons_zero,Option.some.injEq]at hj hi;subst hj;subst hi;exact List.Perm.swap ..
  |succ j=>simp only[List.getElem?_cons_succ]at hj hi;simp only[List.set_cons_succ];exact(ih hj hi).cons a
def e1k(a b:Nat):Int:=if a<b then -1 else if b<a then 1 else 0
end Go.Pc
/- PcReach: which nets a net depends on; faults that are valid. Plain. -/
namespace Go.Pc
open Go.Ax
inductive DepOn(nodes:List Nd):Nat→Nat→Prop
 |refl (a:Nat):DepOn nodes a a
 |step {a m b:Nat} (hk:a0e nodes a≠14) (hm:m∈a15 nodes a) (h:DepOn nodes m b):DepOn nodes a b
theorem DepOn.snoc{nodes:List Nd}{a b m:Nat}(h:DepOn nodes a b)(hk:a0e nodes b≠14)(hm:m∈a15 nodes b):DepOn nodes a m:=by
 induction h with
 |refl a=>exact .step hk hm (.refl _)
 |step dE bA _ ih=>exact .step dE bA (ih hk hm)
structure FltOk(nodes:List Nd)(f:Flt):Prop where
 model:f.model=0∨f.model=2∨f.model=3
 node:f.node<nodes.length
 pin:-1≤f.pin∧f.pin<(a15 nodes f.node).length
 value:f.value≤1
 other:f.other<nodes.length
 stuck:f.model=0→f.other=0
 bridge:f.model≠0→f.pin = -1∧f.node≠f.other∧(f.model=2→f.node≤f.other)∧(f.model=3→f.value=0)∧a0e nodes f.node≠12∧a0e nodes f.other≠12∧¬DepOn nodes f.node f.other∧¬DepOn nodes f.other f.node
end Go.Pc
/- PcRun: the simulation, step by step. Plain. -/
namespace Go.Pc
open Go.Ax
section
variable {α:Type}{A:Alg α}{nodes:List Nd}{h:Hk α}
theorem c0k{n:Nat}{nets:List α}:∀{l:List Nat} {p i m:Nat},l[i]?=some m→(a2h A h n nets p l)[i]?=some (h.pin n (p+i) (nets.getD m A.z))
 | [],p,i,m,hm=>by simp at hm
 |a::l,p,0,m,hm=>by simp at hm;subst hm;rfl
 |a::l,p,i+1,m,hm=>by simp only[List.getElem?_cons_succ]at hm;simp only[a2h,List.getElem?_cons_succ,c0k (p:=p+1) hm];rw[show p+1+i=p+(i+1) by omega]
theorem d25{n:Nat}{nets:List α}:∀(l:List Nat) (p:Nat),(a2h A h n nets p l).length=l.length
 | [],_=>rfl
 |a::l,p=>by simp[a2h,d25 l]
theorem a2r{nets:List α}{n:Nat}:(a0n A nodes h nets n).length=(a15 nodes n).length:=d25 _ _
theorem b32{nets:List α}{n i m:Nat}{v:α}(hm:(a15 nodes n)[i]?=some m)(hv:nets[m]?=some v):(a0n A nodes h nets n).take (i+1)=(a0n A nodes h nets n).take i++[h.pin n i v]:=by have:=c0k (A:=A) (h:=h) (n:=n) (nets:=nets) (p:=0) hm;rw[Nat.zero_add,List.getD,hv]at this;exact a0v this
theorem b8z:∀{is:List Nat} {vs:List α} {nets:List α} {a:Nat} {v:α},is.length=vs.length→a1l nets (is++[a]) (vs++[v])=(a1l nets is vs).set a v
 | [],[],nets,a,v,_=>rfl
 | [],_::_,_,_,_,h=>by simp at h
 |_::_,[],_,_,_,h=>by simp at h
 |i::is,w::vs,nets,a,v,h=>by simp only[List.cons_append,a1l];exact b8z (by simpa using h)
theorem a2g:∀(is:List Nat) (vs:List α) (nets:List α),(a1l nets is vs).length=nets.length
 | [],vs,nets=>by cases vs<;>rfl
 |i::is,[],nets=>rfl
 |i::is,v::vs,nets=>by simp[a1l,a2g is vs]
theorem a6u{is:List Nat}{vs nets:List α}{i a:Nat}{v:α}(h1:is[i]?=some a)(h2:vs[i]?=some v):a1l nets (is.take (i+1)) (vs.take (i+1))=(a1l nets (is.take i) (vs.take i)).set a v:=by rw[a0v h1,a0v h2];have l1:=(List.getElem?_eq_some_iff.1 h1).1;have l2:=(List.getElem?_eq_some_iff.1 h2).1;exact b8z (by rw[List.length_take,List.length_take];omega)
theorem b5c(nets:List α)(n:Nat):(stepG A nodes h nets n).length=nets.length:=by unfold stepG;simp
theorem a6q(l:List Nat)(nets:List α):(l.foldl (stepG A nodes h) nets).length=nets.length:=by
 induction l generalizing nets with
 |nil=>rfl
 |cons a l ih=>rw[List.foldl_cons,ih,b5c]
theorem a9u(ord ins sts:List Nat)(vi vs:List α):(b4n A nodes h ord ins sts vi vs).length=nodes.length:=by unfold b4n;rw[a6q,a2g,a2g];simp
theorem b6t{l:List Nat}{nets:List α}{i n:Nat}(hn:l[i]?=some n):(l.take (i+1)).foldl (stepG A nodes h) nets=stepG A nodes h ((l.take i).foldl (stepG A nodes h) nets) n:=by rw[a0v hn,List.foldl_append];rfl
end
end Go.Pc
/- PcLev: levels of nodes; orders in which a55 node stands behind what it reads. Plain. -/
namespace Go.Pc
open Go.Ax
structure Lev(nodes:List Nd)(lv ready:List Nat)(done:Nat)(L:List (Nat×Nat)):Prop where
 old:∀a,a<nodes.length→a1o (a0e nodes a)=true→∀m∈a15 nodes a,m∈ready.take done→lv.getD m 0<lv.getD a 0
 now:∀l∈L,a1o (a0e nodes l.1)=true→∀x,ready[done]?=some x→lv.getD x 0<lv.getD l.1 0
theorem Lev.start(nodes:List Nd)(lv ready:List Nat):Lev nodes lv ready 0 []:=⟨λa _ _ m _ hm=>by simp at hm,λl hl=>by simp at hl⟩
section
variable {nodes:List Nd}{lv left ready:List Nat}{done:Nat}{L:List (Nat×Nat)}
theorem Lev.skip(h:Lev nodes lv ready done L){a p:Nat}(hc:a1o (a0e nodes a)=false):Lev nodes lv ready done (L++[(a,p)]):=by
 refine⟨h.old,λl hl cD=>?_⟩;rcases List.mem_append.1 hl with hl|hl
 ·exact h.now l hl cD
 ·rw[List.mem_singleton.1 hl]at cD;rw[hc]at cD;cases cD
theorem b50(lv:List Nat)(a v b:Nat)(ha:a<lv.length):(lv.set a v).getD b 0=if a=b then v else lv.getD b 0:=by
 simp only[List.getD_eq_getElem?_getD,List.getElem?_set];by_cases bu:a=b
 ·subst bu;simp[ha]
 ·simp[bu]
theorem Lev.dec(h:Lev nodes lv ready done L){a p x va vx:Nat}(hx:ready[done]?=some x)(jL:a∉ready)(je:lv[a]?=some va)(kc:lv[x]?=some vx){eO:List Nat}(hr:eO=ready∨eO=ready++[a]) :
 Lev nodes (lv.set a (max va (vx+1))) eO done (L++[(a,p)]):=by
 have eL:=(List.getElem?_eq_some_iff.1 je).1;have gO:=(List.getElem?_eq_some_iff.1 hx).1;have uu:x∈ready:=List.mem_of_getElem? hx;have oY:a≠x:=λe=>jL (e▸uu);have ea:lv.getD a 0=va:=by rw[List.getD,je];rfl
 have ex:lv.getD x 0=vx:=by rw[List.getD,kc];rfl
 have ht:eO.take done=ready.take done:=by
  rcases hr with rfl|rfl
  ·rfl
  ·exact List.take_append_of_le_length (by omega)
 have gW:eO[done]?=some x:=by
  rcases hr with rfl|rfl
  ·exact hx
  ·rw[List.getElem?_append_left gO];exact hx
 have up:∀b,lv.getD b 0≤(lv.set a (max va (vx+1))).getD b 0:=by
  intro b;rw[b50 _ _ _ _ eL];split
  ·rename_i e;subst e;rw[ea];exact Nat.le_max_left _ _
  ·exact Nat.le_refl _
 refine⟨?_,?_⟩
 ·intro b hb dz m hm eR;rw[ht]at eR;have uQ:a≠m:=λe=>jL (e▸List.mem_of_mem_take eR);rw[b50 _ _ _ m eL,if_neg uQ];exact Nat.lt_of_lt_of_le (h.old b hb dz m hm eR) (up b)
 ·intro l hl cD y hy;rw[gW]at hy;cases hy;rw[b50 _ _ _ x eL,if_neg oY];rcases List.mem_append.1 hl with hl|hl
  ·exact Nat.lt_of_lt_of_le (h.now l hl cD x hx) (up _)
  ·rw[List.mem_singleton.1 hl,b50 _ _ _ _ eL,if_pos rfl,ex];exact Nat.lt_of_lt_of_le (Nat.lt_succ_self _) (Nat.le_max_right _ _)
theorem Lev.next(h:Lev nodes lv ready done L){x:Nat}(hx:ready[done]?=some x)(hL:∀a,a<nodes.length→cnt L a=(a15 nodes a).count x):Lev nodes lv ready (done+1) []:=by
 refine⟨?_,λl hl=>by simp at hl⟩;intro a ha hc m hm eR;rw[a0v hx]at eR;rcases List.mem_append.1 eR with eR|eR
 ·exact h.old a ha hc m hm eR
 ·rw[List.mem_singleton.1 eR]at hm⊢;have h1:=hL a ha;have h2:0<(a15 nodes a).count x:=List.count_pos_iff.2 hm;rw[←h1]at h2;unfold Pc.cnt at h2;obtain⟨l,hl,rfl⟩:=List.mem_map.1 (List.count_pos_iff.1 h2);exact h.now l hl hc x hx
def Rises(nodes:List Nd)(lv:List Nat):Prop:=∀a,a<nodes.length→a1o (a0e nodes a)=true→∀m∈a15 nodes a,m<nodes.length→lv.getD m 0<lv.getD a 0
theorem Lev.all(h:Lev nodes lv ready ready.length [])(hk:Kahn nodes left ready ready.length [])(bd:nodes.length≤ready.length):Rises nodes lv:=by
 intro a ha hc m hm dY;refine h.old a ha hc m hm ?_;rw[List.take_length];by_cases eR:m∈ready
 ·exact eR
 ·have hs:=b6f (l:=m::ready) (T:=List.range nodes.length) (List.nodup_cons.2 ⟨eR,hk.nd⟩) (λb hb=>by
   rcases List.mem_cons.1 hb with rfl|hb
   ·simpa using dY
   ·simpa using hk.rn b hb)
  simp at hs;omega
end
def e1w(nodes:List Nd)(ord:List Nat):Prop:=∀(i n:Nat),ord[i]?=some n→a1o (a0e nodes n)=true→∀m∈a15 nodes n,m∈ord.take i
theorem Rises.topo{nodes:List Nd}{lv ord:List Nat}(h:Rises nodes lv)(hp:ord.Perm (List.range nodes.length))(hs:ord.Pairwise λx y=>lv.getD x 0≤lv.getD y 0)(dS:∀n,n<nodes.length→∀m∈a15 nodes n,m<nodes.length):e1w nodes ord:=by
 intro i n hi hc m hm;have hn:n<nodes.length:=by have:=hp.mem_iff.1 (List.mem_of_getElem? hi);simpa using this
 have dY:=dS n hn m hm;obtain⟨j,hj⟩:=List.mem_iff_getElem?.1 (hp.mem_iff.2 (List.mem_range.2 dY));have ah:=h n hn hc m hm dY;have cM:=(List.getElem?_eq_some_iff.1 hi).1;have aS:=(List.getElem?_eq_some_iff.1 hj).1;by_cases iC:j<i
 ·exact List.mem_iff_getElem?.2 ⟨j,by rw[List.getElem?_take,if_pos iC];exact hj⟩
 ·exfalso;by_cases bX:i=j
  ·subst bX;rw[hi]at hj;cases hj;omega
  ·have:=List.pairwise_iff_getElem.1 hs i j cM aS (by omega);rw[(List.getElem?_eq_some_iff.1 hi).2,(List.getElem?_eq_some_iff.1 hj).2]at this;omega
theorem Cir.wf.inAt{c:Cir}(h:c.wf):∀n,n<c.nodes.length→∀m∈a15 c.nodes n,m<c.nodes.length:=by
 intro n hn m hm;obtain⟨x,hx⟩:∃x,c.nodes[n]?=some x:=⟨_,List.getElem?_eq_getElem hn⟩
 rw[a1c hx]at hm;exact h.ins x (List.mem_of_getElem? hx) m hm
/-! ### insertion -/
def SortJ(key:Nat→Nat)(d:List Nat)(i j:Nat):Prop:=∀p q x y,p<q→q≤i→q≠j→d[p]?=some x→d[q]?=some y→key x≤key y
def SortI(key:Nat→Nat)(d:List Nat)(i:Nat):Prop:=∀p q x y,p<q→q<i→d[p]?=some x→d[q]?=some y→key x≤key y
theorem SortI.start{key:Nat→Nat}{d:List Nat}{i:Nat}(h:SortI key d i):SortJ key d i i:=λp q x y h1 h2 h3=>h p q x y h1 (by omega)
theorem SortI.one{key:Nat→Nat}{d:List Nat}:SortI key d 1:=λp q x y h1 h2=>by omega
theorem SortJ.stop{key:Nat→Nat}{d:List Nat}{i j:Nat}(h:SortJ key d i j)(hj:j=0∨∃x y,d[j-1]?=some x∧d[j]?=some y∧key x≤key y):SortI key d (i+1):=by
 intro p q x y h1 h2 hx hy;by_cases hq:q=j
 ·subst hq;rcases hj with rfl|⟨x',y',h3,h4,h5⟩
  ·omega
  ·rw[hy]at h4;cases h4;by_cases hp:p=q-1
   ·subst hp;rw[hx]at h3;cases h3;exact h5
   ·exact Nat.le_trans (h p (q-1) x x' (by omega) (by omega) (by omega) hx h3) h5
 ·exact h p q x y h1 (by omega) hq hx hy
theorem SortJ.swap{key:Nat→Nat}{d:List Nat}{i j:Nat}(h:SortJ key d i (j+1))(iC:j+1≤i){x y:Nat}(hx:d[j]?=some x)(hy:d[j+1]?=some y)(ah:key y<key x):SortJ key ((d.set (j+1) x).set j y) i j:=by
 have aS:=(List.getElem?_eq_some_iff.1 hy).1;have hg:∀p,((d.set (j+1) x).set j y)[p]?=if p=j then some y else if p=j+1 then some x else d[p]?:=by
  intro p;rw[List.getElem?_set,List.getElem?_set];simp only[List.length_set];by_cases h1:j=p
  ·subst h1;simp;omega
  ·by_cases h2:j+1=p
   ·subst h2;simp;omega
   ·simp[h1,h2,Ne.symm h1,Ne.symm h2]
 intro p q u v h1 h2 h3 hu hv;rw[hg]at hu hv;rw[if_neg h3]at hv;by_cases hq:q=j+1
 ·rw[if_pos hq]at hv;cases hv;by_cases hp:p=j
  ·rw[if_pos hp]at hu;cases hu;omega
  ·rw[if_neg hp,if_neg (by omega)]at hu;exact h p j u x (by omega) (by omega) (by omega) hu hx
 ·rw[if_neg hq]at hv;by_cases hp:p=j
  ·rw[if_pos hp]at hu;cases hu;exact h (j+1) q y v (by omega) h2 (by omega) hy hv
  ·rw[if_neg hp]at hu;by_cases dW:p=j+1
   ·rw[if_pos dW]at hu;cases hu;exact h j q x v (by omega) h2 (by omega) hx hv
   ·rw[if_neg dW]at hu;exact h p q u v h1 h2 (by omega) hu hv
theorem SortI.pairwise{key:Nat→Nat}{d:List Nat}(h:SortI key d d.length):d.Pairwise λx y=>key x≤key y:=by rw[List.pairwise_iff_getElem];intro i j hi hj bX;exact h i j _ _ bX hj (List.getElem?_eq_getElem hi) (List.getElem?_eq_getElem hj)
end Go.Pc
/- PcLog: gates over the values 0, 1, X and Z; they are the gates over pairs of bits. Plain. -/
namespace Go.Pc
open Go.Ax
def a4t(v:Nat):Nat:=min v 2
def a9a(v:Nat):Nat:=if v≤1 then 1-v else 2
def a7u(low bK:Nat):Nat→List Nat→Nat
 |aD,[]=>aD
 |aD,v::r=>if v=low then low else a7u low bK (if v=bK then aD else 2) r
def b7r:Nat→List Nat→Nat
 |aD,[]=>aD
 |aD,v::r=>if v≤1 then b7r (aD^^^v) r else 2
def c0v(s a b:Nat):Nat:=if s=0 then a4t a else if s=1 then a4t b else if a=b then a4t a else 2
def c5o(e d:Nat):Nat:=if e=0 then 3 else if e=1 then a4t d else 2
def e17(l:List Nat):Nat:=match l.findIdx? (λv=>decide (v≠3))with
 |none=>3
 |some i=>if(decide (0∈l)&&decide (1∈l))||l.any (λv=>decide (a2i v=2))then 2 else l.getD i 0
def a5f(k:Nat)(l:List Nat):Nat:=match k with
 |1=>0
 |2=>1
 |3=>a4t (l.getD 0 2)
 |4=>a9a (l.getD 0 2)
 |5=>a7u 0 1 1 l
 |6=>a9a (a7u 0 1 1 l)
 |7=>a7u 1 0 0 l
 |8=>a9a (a7u 1 0 0 l)
 |9=>b7r 0 l
 |10=>a9a (b7r 0 l)
 |11=>c0v (l.getD 0 2) (l.getD 1 2) (l.getD 2 2)
 |12=>c5o (l.getD 0 2) (l.getD 1 2)
 |13=>e17 l
 |_=>2
def a4d(k:Nat)(l:List Nat):Nat:=if l.length<a1e k∨a1m k<l.length then 2 else a5f k l
def vR(v:Nat):V2:=c00 (a0k v)
theorem c68(P:Nat→Prop)(h0:P 0)(h1:P 1)(h2:P 2)(h3:P 3){v:Nat}(hv:v≤3):P v:=by
 have:v=0∨v=1∨v=2∨v=3:=by omega
 rcases this with rfl|rfl|rfl|rfl<;>assumption
theorem c8r{v:Nat}(hv:v≤3):a0k (a4t v)=c00 (a0k v)∧a4t v≤3:=c68 (λv=>a0k (a4t v)=c00 (a0k v)∧a4t v≤3) (by decide) (by decide) (by decide) (by decide) hv
theorem d2h{v:Nat}(hv:v≤3):a0k (a9a v)=d0w (c00 (a0k v))∧a9a v≤3:=c68 (λv=>a0k (a9a v)=d0w (c00 (a0k v))∧a9a v≤3) (by decide) (by decide) (by decide) (by decide) hv
theorem b37{v:Nat}(hv:v≤2):a0k (a9a v)=d0w (a0k v)∧a9a v≤3:=by
 have:v=0∨v=1∨v=2:=by omega
 rcases this with rfl|rfl|rfl<;>decide
theorem d5i:∀(l:List V2),l.foldl c52 (false,true)=(false,true)
 | []=>rfl
 |a::l=>by rw[List.foldl_cons,show c52 (false,true) a=(false,true) by simp[c52]];exact d5i l
theorem e10:∀(l:List V2),l.foldl vOr (true,false)=(true,false)
 | []=>rfl
 |a::l=>by rw[List.foldl_cons,show vOr (true,false) a=(true,false) by simp[vOr]];exact e10 l
theorem c4y:∀(l:List V2),l.foldl c50 (false,false)=(false,false)
 | []=>rfl
 |a::l=>by rw[List.foldl_cons,show c50 (false,false) a=(false,false) by simp[c50]];exact c4y l
theorem b2i:∀(l:List Nat) (aD:Nat),(aD=1∨aD=2)→(∀v∈l,v≤3)→(l.map vR).foldl c52 (a0k aD)=a0k (a7u 0 1 aD l)∧a7u 0 1 aD l≤2
 | [],aD,ho,_=>by rcases ho with rfl|rfl<;>decide
 |v::l,aD,ho,hv=>by
  have hl:=λv h=>hv v (List.mem_cons_of_mem _ h);rw[List.map_cons,List.foldl_cons];refine c68 (λv=>(l.map vR).foldl c52 (c52 (a0k aD) (vR v))=a0k (a7u 0 1 aD (v::l))∧a7u 0 1 aD (v::l)≤2) ?_ ?_ ?_ ?_ (hv v (List.mem_cons_self ..))
  ·have:c52 (a0k aD) (vR 0)=(false,true):=by rcases ho with rfl|rfl<;>decide
   rw[this,d5i];simp only[a7u,if_true];decide
  ·have:c52 (a0k aD) (vR 1)=a0k aD:=by rcases ho with rfl|rfl<;>decide
   rw[this];simp only[a7u];exact b2i l aD ho hl
  ·have:c52 (a0k aD) (vR 2)=a0k 2:=by rcases ho with rfl|rfl<;>decide
   rw[this];simp only[a7u];exact b2i l 2 (.inr rfl) hl
  ·have:c52 (a0k aD) (vR 3)=a0k 2:=by rcases ho with rfl|rfl<;>decide
   rw[this];simp only[a7u];exact b2i l 2 (.inr rfl) hl
theorem b5w:∀(l:List Nat) (aD:Nat),(aD=0∨aD=2)→(∀v∈l,v≤3)→(l.map vR).foldl vOr (a0k aD)=a0k (a7u 1 0 aD l)∧a7u 1 0 aD l≤2
 | [],aD,ho,_=>by rcases ho with rfl|rfl<;>decide
 |v::l,aD,ho,hv=>by
  have hl:=λv h=>hv v (List.mem_cons_of_mem _ h);rw[List.map_cons,List.foldl_cons];refine c68 (λv=>(l.map vR).foldl vOr (vOr (a0k aD) (vR v))=a0k (a7u 1 0 aD (v::l))∧a7u 1 0 aD (v::l)≤2) ?_ ?_ ?_ ?_ (hv v (List.mem_cons_self ..))
  ·have:vOr (a0k aD) (vR 0)=a0k aD:=by rcases ho with rfl|rfl<;>decide
   rw[this];simp only[a7u];exact b5w l aD ho hl
  ·have:vOr (a0k aD) (vR 1)=(true,false):=by rcases ho with rfl|rfl<;>decide
   rw[this,e10];simp only[a7u,if_true];decide
  ·have:vOr (a0k aD) (vR 2)=a0k 2:=by rcases ho with rfl|rfl<;>decide
   rw[this];simp only[a7u];exact b5w l 2 (.inr rfl) hl
  ·have:vOr (a0k aD) (vR 3)=a0k 2:=by rcases ho with rfl|rfl<;>decide
   rw[this];simp only[a7u];exact b5w l 2 (.inr rfl) hl
theorem b4r:∀(l:List Nat) (aD:Nat),(aD=0∨aD=1)→(∀v∈l,v≤3)→(l.map vR).foldl c50 (a0k aD)=a0k (b7r aD l)∧b7r aD l≤2
 | [],aD,ho,_=>by rcases ho with rfl|rfl<;>decide
 |v::l,aD,ho,hv=>by
  have hl:=λv h=>hv v (List.mem_cons_of_mem _ h);rw[List.map_cons,List.foldl_cons];refine c68 (λv=>(l.map vR).foldl c50 (c50 (a0k aD) (vR v))=a0k (b7r aD (v::l))∧b7r aD (v::l)≤2) ?_ ?_ ?_ ?_ (hv v (List.mem_cons_self ..))
  ·have:c50 (a0k aD) (vR 0)=a0k aD:=by rcases ho with rfl|rfl<;>decide
   rw[this];simp only[b7r,Nat.xor_zero];exact b4r l aD ho hl
  ·have:c50 (a0k aD) (vR 1)=a0k (aD^^^1):=by rcases ho with rfl|rfl<;>decide
   rw[this];simp only[b7r];exact b4r l (aD^^^1) (by rcases ho with rfl|rfl<;>decide) hl
  ·have:c50 (a0k aD) (vR 2)=(false,false):=by rcases ho with rfl|rfl<;>decide
   rw[this,c4y];exact⟨rfl,by show(2:Nat)≤2;decide⟩
  ·have:c50 (a0k aD) (vR 3)=(false,false):=by rcases ho with rfl|rfl<;>decide
   rw[this,c4y];exact⟨rfl,by show(2:Nat)≤2;decide⟩
theorem d7g{s a b:Nat}(hs:s≤3)(ha:a≤3)(hb:b≤3):a0k (c0v s a b)=e6m (vR s) (vR a) (vR b)∧c0v s a b≤3:=by
 have h:∀s:Fin 4,∀a:Fin 4,∀b:Fin 4,a0k (c0v s a b)=e6m (vR s) (vR a) (vR b)∧c0v s a b≤3:=by decide
 exact h ⟨s,by omega⟩ ⟨a,by omega⟩ ⟨b,by omega⟩
theorem d6f{e d:Nat}(he:e≤3)(hd:d≤3):a0k (c5o e d)=e6l (vR e) (vR d)∧c5o e d≤3:=by
 have h:∀e:Fin 4,∀d:Fin 4,a0k (c5o e d)=e6l (vR e) (vR d)∧c5o e d≤3:=by decide
 exact h ⟨e,by omega⟩ ⟨d,by omega⟩
theorem e1m:∀(l:List Nat) (s:Bool×Bool×Bool),(∀v∈l,v≤3)→(l.map a0k).foldl b9z s=(s.1||decide (1∈l),s.2.1||decide (0∈l),s.2.2||decide (2∈l))
 | [],s,_=>by simp
 |v::l,s,hv=>by
  have hl:=λv h=>hv v (List.mem_cons_of_mem _ h);rw[List.map_cons,List.foldl_cons,e1m l _ hl];obtain⟨a,b,c⟩:=s;refine c68 (λv=>((b9z (a,b,c) (a0k v)).1||decide (1∈l),(b9z (a,b,c) (a0k v)).2.1||decide (0∈l),(b9z (a,b,c) (a0k v)).2.2||decide (2∈l))=(a||decide (1∈v::l),b||decide (0∈v::l),c||decide (2∈v::l))) ?_ ?_ ?_ ?_ (hv v (List.mem_cons_self ..)) <;>
   simp[b9z,a0k,a2i,List.mem_cons]
theorem d9o(l:List Nat)(hv:∀v∈l,v≤3):a0k (e17 l)=e7y (l.map a0k)∧e17 l≤3:=by
 have hx:l.any (λv=>decide (a2i v=2))=decide (2∈l):=by
  rw[Bool.eq_iff_iff,List.any_eq_true,decide_eq_true_eq];constructor
  ·rintro⟨v,h,hc⟩
   have h3:=hv v h;have:v=2:=by revert hc h3;revert v;intro v _ hc h3;exact c68 (λv=>decide (a2i v=2)=true→v=2) (by decide) (by decide) (by decide) (by decide) h3 hc
   exact this▸h
  ·intro h;exact⟨2,h,by decide⟩
 unfold e7y e17;rw[e1m l _ hv,hx];cases hf:l.findIdx? (λv=>decide (v≠3))with
 |none=>
  have hn:=List.findIdx?_eq_none_iff.1 hf;have h1:∀k,k≠3→k∉l:=λk hk hm=>by have:=hn k hm;simp[hk]at this
  simp only[h1 0 (by decide),h1 1 (by decide),h1 2 (by decide),decide_false,Bool.or_false];decide
 |some i=>
  obtain⟨hi,hp,_⟩:=List.findIdx?_eq_some_iff_getElem.1 hf;have hm:l.getD i 0∈l:=by rw[List.getD,List.getElem?_eq_getElem hi];exact List.getElem_mem hi
  have he:l.getD i 0≠3:=by rw[List.getD,List.getElem?_eq_getElem hi];simpa using hp
  have h3:=hv _ hm;show a0k (if _ then 2 else l.getD i 0)=_∧(if _ then 2 else l.getD i 0)≤3;generalize l.getD i 0=w at hm he h3⊢;have hw:w=0∨w=1∨w=2:=by omega
  simp only[Bool.false_or];by_cases h2:2∈l
  ·simp only[h2,decide_true,Bool.or_true,if_true];cases decide (1∈l)<;>cases decide (0∈l)<;>decide
  ·simp only[h2,decide_false,Bool.or_false];rcases hw with rfl|rfl|rfl
   ·simp only[hm,decide_true,Bool.true_and];cases decide (1∈l)<;>decide
   ·simp only[hm,decide_true,Bool.and_true];cases decide (0∈l)<;>decide
   ·exact absurd hm h2
theorem f5c(l:List Nat):(l.map a0k).map c00=l.map vR:=by rw[List.map_map];rfl
theorem b16(l:List Nat)(i:Nat)(hi:i<l.length):(l.map vR).getD i (false,false)=vR (l.getD i 2):=by simp only[List.getD_eq_getElem?_getD,List.getElem?_map,List.getElem?_eq_getElem hi,Option.map_some,Option.getD_some]
theorem e4e(l:List Nat)(hv:∀v∈l,v≤3)(i:Nat):l.getD i 2≤3:=by
 simp only[List.getD_eq_getElem?_getD];cases h:l[i]? with
 |none=>decide
 |some v=>exact hv v (List.mem_of_getElem? h)
theorem c3y(k:Nat)(l:List Nat)(hv:∀v∈l,v≤3):a0k (a4d k l)=c51 k (l.map a0k)∧a4d k l≤3:=by
 unfold a4d c51;rw[List.length_map];split
 ·decide
 rename_i ai;have lo:a1e k≤l.length:=by omega
 by_cases h13:k=13
 ·subst h13;rw[if_pos rfl];exact d9o l hv
 rw[if_neg h13,f5c];have g:=e4e l hv;unfold a5f;split
 ·exact⟨rfl,by decide⟩
 ·exact⟨rfl,by decide⟩
 ·show a0k (a4t (l.getD 0 2))=(l.map vR).getD 0 (false,false)∧_;rw[b16 _ _ (Nat.lt_of_lt_of_le (by decide) lo)];exact c8r (g 0)
 ·show a0k (a9a (l.getD 0 2))=d0w ((l.map vR).getD 0 (false,false))∧_;rw[b16 _ _ (Nat.lt_of_lt_of_le (by decide) lo)];exact d2h (g 0)
 ·have:=b2i l 1 (.inl rfl) hv;exact⟨this.1.symm,by omega⟩
 ·have:=b2i l 1 (.inl rfl) hv;show a0k (a9a (a7u 0 1 1 l))=d0w ((l.map vR).foldl c52 (a0k 1))∧_;rw[this.1];exact b37 this.2
 ·have:=b5w l 0 (.inl rfl) hv;exact⟨this.1.symm,by omega⟩
 ·have:=b5w l 0 (.inl rfl) hv;show a0k (a9a (a7u 1 0 0 l))=d0w ((l.map vR).foldl vOr (a0k 0))∧_;rw[this.1];exact b37 this.2
 ·have:=b4r l 0 (.inl rfl) hv;exact⟨this.1.symm,by omega⟩
 ·have:=b4r l 0 (.inl rfl) hv;show a0k (a9a (b7r 0 l))=d0w ((l.map vR).foldl c50 (a0k 0))∧_;rw[this.1];exact b37 this.2
 ·show a0k (c0v (l.getD 0 2) (l.getD 1 2) (l.getD 2 2))=e6m ((l.map vR).getD 0 (false,false)) ((l.map vR).getD 1 (false,false)) ((l.map vR).getD 2 (false,false))∧_;rw[b16 _ _ (Nat.lt_of_lt_of_le (by decide) lo),b16 _ _ (Nat.lt_of_lt_of_le (by decide) lo),b16 _ _ (Nat.lt_of_lt_of_le (by decide) lo)];exact d7g (g 0) (g 1) (g 2)
 ·show a0k (c5o (l.getD 0 2) (l.getD 1 2))=e6l ((l.map vR).getD 0 (false,false)) ((l.map vR).getD 1 (false,false))∧_;rw[b16 _ _ (Nat.lt_of_lt_of_le (by decide) lo),b16 _ _ (Nat.lt_of_lt_of_le (by decide) lo)];exact d6f (g 0) (g 1)
 ·exact absurd rfl h13
 ·refine⟨?_,by decide⟩;unfold c6x;split<;>first|rfl|(exfalso;simp_all)
end Go.Pc
/- PcTwo: the simulation over values; what is laid into the nets before it begins does not matter. Plain. -/
namespace Go.Pc
open Go.Ax
theorem d0f(v:Nat):a0k (a2i v)=a0k v:=by
 unfold a0k;have:a2i (a2i v)=a2i v:=by unfold a2i;split<;>simp<;>omega
 rw[this]
theorem c8b(v:Nat):a2i v≤3:=by unfold a2i;split<;>omega
theorem c8c{v:Nat}(h:v≤3):a2i v=v:=by unfold a2i;rw[if_neg (by omega)]
theorem a9v{l:List Nat}(h:∀v∈l,v≤3):l.map a2i=l:=by have:=List.map_congr_left (f:=a2i) (g:=λv=>v) (l:=l) (λv hv=>c8c (h v hv));rw[this,List.map_id']
def nAlg:Alg Nat:=⟨λk l=>a4d k (l.map a2i),0,λv=>v⟩
def vAlg0:Alg V2:=⟨c51,a0k 0,a0k⟩
theorem e8w:Hom nAlg vAlg0 a0k:=by
 refine⟨λk l=>?_,rfl,λv=>rfl⟩;have h:=(c3y k (l.map a2i) (λv hv=>by obtain⟨w,_,rfl⟩:=List.mem_map.1 hv;exact c8b w)).1;show a0k (a4d k (l.map a2i))=c51 k (l.map a0k);rw[h,List.map_map]
 congr 1
 exact List.map_congr_left λv _=>d0f v
theorem c7f(k:Nat)(l:List Nat)(h:∀v∈l,v≤3):a4d k l≤3:=(c3y k l h).2
section
variable {α:Type}{A B:Alg α}(eh:A.ev=B.ev){nodes:List Nd}{h:Hk α}
def Agr(P:Nat→Prop)(a b:List α):Prop:=a.length=b.length∧∀n,P n→a[n]?=b[n]?
theorem b6a:∀(is:List Nat) (vs:List α) (a b:List α) (P:Nat→Prop),Agr P a b→(∀i∈is,i<a.length)→is.length=vs.length→Agr (λn=>P n∨n∈is) (a1l a is vs) (a1l b is vs)
 | [],vs,a,b,P,bu,_,_=>by cases vs<;>exact⟨bu.1,λn hn=>bu.2 n (by simpa using hn)⟩
 |i::is,[],a,b,P,bu,_,hl=>by simp at hl
 |i::is,v::vs,a,b,P,bu,ah,hl=>by
  simp only[a1l];have:=b6a is vs (a.set i v) (b.set i v) (λn=>P n∨n=i) ⟨by simp[bu.1],λn hn=>by
   rw[List.getElem?_set,List.getElem?_set,←bu.1];by_cases hi:i=n
   ·simp[hi]
   ·rw[if_neg hi,if_neg hi];rcases hn with hn|hn
    ·exact bu.2 n hn
    ·exact absurd hn.symm hi⟩ (λj hj=>by rw[List.length_set];exact ah j (List.mem_cons_of_mem _ hj)) (by simpa using hl)
  refine⟨this.1,λn hn=>this.2 n ?_⟩;rcases hn with hn|hn
  ·exact .inl (.inl hn)
  ·rcases List.mem_cons.1 hn with rfl|hn
   ·exact .inl (.inr rfl)
   ·exact .inr hn
theorem b11(n:Nat)(a b:List α)(hl:a.length=b.length):∀(l:List Nat) (p:Nat),(∀m∈l,m<a.length∧a[m]?=b[m]?)→a2h A h n a p l=a2h B h n b p l
 | [],_,_=>rfl
 |m::r,p,hm=>by
  obtain⟨h1,h2⟩:=hm m (List.mem_cons_self ..);simp only[a2h,b11 n a b hl r (p+1) (λx hx=>hm x (List.mem_cons_of_mem _ hx))]
  congr 2
  rw[List.getD,List.getD,←h2,List.getElem?_eq_getElem h1];rfl
include eh in
theorem c81(S:Nat→Prop):∀(ord done:List Nat) (a b:List α),Agr (λn=>n∈done∨S n) a b→a.length=nodes.length→(∀n∈ord,n<nodes.length)→(∀n∈ord,a0e nodes n=0∨a0e nodes n=14→S n)→
 (∀(i n:Nat),ord[i]?=some n→a0e nodes n≠0∧a0e nodes n≠14→∀m∈a15 nodes n,m<nodes.length∧(m∈done∨m∈ord.take i))→
 Agr (λn=>n∈done∨n∈ord∨S n) (ord.foldl (stepG A nodes h) a) (ord.foldl (stepG B nodes h) b)
 | [],done,a,b,bu,hl,_,_,_=>⟨bu.1,λn hn=>bu.2 n (by simpa using hn)⟩
 |x::ord,done,a,b,bu,hl,ah,hS,ht=>by
  rw[List.foldl_cons,List.foldl_cons];have hx:=ah x (List.mem_cons_self ..);have az:(if a0e nodes x≠0∧a0e nodes x≠14 then A.ev (a0e nodes x) (a0n A nodes h a x)else a.getD x A.z)=(if a0e nodes x≠0∧a0e nodes x≠14 then B.ev (a0e nodes x) (a0n B nodes h b x)else b.getD x B.z):=by
   by_cases hk:a0e nodes x≠0∧a0e nodes x≠14
   ·rw[if_pos hk,if_pos hk,eh]
    congr 1
    refine b11 x a b bu.1 _ 0 (λm hm=>?_);obtain⟨h1,h2⟩:=ht 0 x rfl hk m hm;refine⟨by omega,bu.2 m (.inl ?_)⟩;rcases h2 with h2|h2
    ·exact h2
    ·simp at h2
   ·rw[if_neg hk,if_neg hk];have h1:=bu.2 x (.inr (hS x (List.mem_cons_self ..) (by omega)));rw[List.getD,List.getD,←h1,List.getElem?_eq_getElem (by omega)];rfl
  have br:Agr (λn=>n∈x::done∨S n) (stepG A nodes h a x) (stepG B nodes h b x):=by
   unfold stepG;rw[az];refine⟨by simp[bu.1],λn hn=>?_⟩;rw[List.getElem?_set,List.getElem?_set,←bu.1];by_cases hi:x=n
   ·simp[hi]
   ·rw[if_neg hi,if_neg hi];refine bu.2 n ?_;rcases hn with hn|hn
    ·rcases List.mem_cons.1 hn with rfl|hn
     ·exact absurd rfl hi
     ·exact .inl hn
    ·exact .inr hn
  have:=c81 S ord (x::done) _ _ br (by rw[b5c];exact hl) (λn hn=>ah n (List.mem_cons_of_mem _ hn)) (λn hn=>hS n (List.mem_cons_of_mem _ hn)) (λi n hi hk m hm=>by
   obtain⟨h1,h2⟩:=ht (i+1) n (by simpa using hi) hk m hm;refine⟨h1,?_⟩;rcases h2 with h2|h2
   ·exact .inl (List.mem_cons_of_mem _ h2)
   ·rw[List.take_succ_cons]at h2;rcases List.mem_cons.1 h2 with rfl|h2
    ·exact .inl (List.mem_cons_self ..)
    ·exact .inr h2)
  refine⟨this.1,λn hn=>this.2 n ?_⟩;rcases hn with hn|hn|hn
  ·exact .inl (List.mem_cons_of_mem _ hn)
  ·rcases List.mem_cons.1 hn with rfl|hn
   ·exact .inl (List.mem_cons_self ..)
   ·exact .inr (.inl hn)
  ·exact .inr (.inr hn)
include eh in
theorem e3n{ord ins sts:List Nat}{vi vs:List α}(hp:ord.Perm (List.range nodes.length))(ht:e1w nodes ord)(oU:∀n,n<nodes.length→a0e nodes n≠0∧a0e nodes n≠14→a1o (a0e nodes n)=true)
 (dS:∀n,n<nodes.length→∀m∈a15 nodes n,m<nodes.length)(hi:∀n,n<nodes.length→a0e nodes n=0→n∈ins)(hs:∀n,n<nodes.length→a0e nodes n=14→n∈sts)
 (cM:∀i∈ins,i<nodes.length)(ir:∀i∈sts,i<nodes.length)(ke:ins.length=vi.length)(fF:sts.length=vs.length):b4n A nodes h ord ins sts vi vs=b4n B nodes h ord ins sts vi vs:=by
 have h0:Agr (λ_=>False) (List.replicate nodes.length A.z) (List.replicate nodes.length B.z):=⟨by simp,λn hn=>hn.elim⟩
 have h1:=b6a ins vi _ _ _ h0 (λi hh=>by simpa using cM i hh) ke;have h2:=b6a sts vs _ _ _ h1 (λi hh=>by rw[a2g];simpa using ir i hh) fF;have ai:(a1l (a1l (List.replicate nodes.length A.z) ins vi) sts vs).length=nodes.length:=by rw[a2g,a2g];simp
 have cz:∀n,n∈ord↔n<nodes.length:=λn=>by rw[hp.mem_iff];simp
 have h3:=c81 (nodes:=nodes) (h:=h) eh (λn=>(False∨n∈ins)∨n∈sts) ord [] _ _ ⟨h2.1,λn hn=>h2.2 n (by simpa using hn)⟩ ai (λn hn=>(cz n).1 hn) (λn hn hk=>by
  have hn:=(cz n).1 hn;rcases hk with hk|hk
  ·exact .inl (.inr (hi n hn hk))
  ·exact .inr (hs n hn hk)) (λi n gv hk m hm=>by
  have hn:=(cz n).1 (List.mem_of_getElem? gv);exact⟨dS n hn m hm,.inr (ht i n gv (oU n hn hk) m hm)⟩)
 unfold b4n;apply List.ext_getElem?;intro n;by_cases hn:n<nodes.length
 ·exact h3.2 n (.inr (.inl ((cz n).2 hn)))
 ·rw[List.getElem?_eq_none (by rw[a6q,ai];omega),List.getElem?_eq_none (by rw[a6q,←h2.1,ai];omega)]
omit eh in
theorem e2t{outs sts:List Nat}{nets:List α}(ho:∀n∈outs,n<nets.length)(hs:∀n∈sts,a15 nodes n≠[]∧∀m∈a15 nodes n,m<nets.length):b5g A nodes h outs sts nets=b5g B nodes h outs sts nets:=by
 unfold b5g
 congr 1
 ·exact List.map_congr_left λn hn=>by rw[List.getD,List.getD,List.getElem?_eq_getElem (ho n hn)];rfl
 ·refine List.map_congr_left λn hn=>?_;obtain⟨h1,h2⟩:=hs n hn;have e:a0n A nodes h nets n=a0n B nodes h nets n:=b11 n nets nets rfl _ 0 (λm hm=>⟨h2 m hm,rfl⟩);rw[e];have hl:0<(a0n B nodes h nets n).length:=by rw[a2r];exact List.length_pos_iff.2 h1
  rw[List.getD,List.getD,List.getElem?_eq_getElem hl];rfl
end
end Go.Pc
/- PcDet: what a pattern detects, by values: the responses of the two runs contradict each other. Plain. -/
namespace Go.Pc
open Go.Ax
def con(x y:Nat):Bool:=decide (x≤1)&&decide (y≤1)&&decide (x≠y)
def b2r:List Nat→List Nat→Bool
 |x::xs,y::ys=>con x y||b2r xs ys
 |_,_=>false
theorem d9f{x y:Nat}(hx:x≤3)(hy:y≤3):f0l (a0k x) (a0k y)=con x y:=by
 have h:∀x:Fin 4,∀y:Fin 4,f0l (a0k x) (a0k y)=con x y:=by decide
 exact h ⟨x,by omega⟩ ⟨y,by omega⟩
theorem d9e{x y:Nat}(hx:x≤3)(hy:y≤3):con (a4t x) (if y=3 then 2 else y)=con x y:=by
 have h:∀x:Fin 4,∀y:Fin 4,con (a4t x) (if(y:Nat)=3 then 2 else y)=con x y:=by decide
 exact h ⟨x,by omega⟩ ⟨y,by omega⟩
theorem b88:∀(a b:List Nat) (s:Bool),(∀v∈a,v≤3)→(∀v∈b,v≤3)→c29 (a.map a0k) (b.map a0k) s=(s||b2r a b)
 | [],b,s,_,_=>by cases b<;>simp[c29,b2r]
 |x::xs,[],s,_,_=>by simp[c29,b2r]
 |x::xs,y::ys,s,ha,hb=>by simp only[List.map_cons,c29,b2r];rw[b88 xs ys _ (λv h=>ha v (List.mem_cons_of_mem _ h)) (λv h=>hb v (List.mem_cons_of_mem _ h)),d9f (ha x (List.mem_cons_self ..)) (hb y (List.mem_cons_self ..)),Bool.or_assoc]
theorem b79:∀(a b c d:List Nat),a.length=b.length→b2r (a++c) (b++d)=(b2r a b||b2r c d)
 | [],[],c,d,_=>by simp[b2r]
 | [],_::_,_,_,h=>by simp at h
 |_::_,[],_,_,h=>by simp at h
 |x::xs,y::ys,c,d,h=>by simp only[List.cons_append,b2r];rw[b79 xs ys c d (by simpa using h),Bool.or_assoc]
theorem c89{α:Type}(f g f' g':α→Nat):∀(l:List α),(∀x∈l,con (f x) (g x)=con (f' x) (g' x))→b2r (l.map f) (l.map g)=b2r (l.map f') (l.map g')
 | [],_=>rfl
 |x::l,h=>by simp only[List.map_cons,b2r];rw[h x (List.mem_cons_self ..),c89 f g f' g' l (λy hy=>h y (List.mem_cons_of_mem _ hy))]
def a8s(nodes:List Nd)(h:Hk Nat)(nets:List Nat)(sts:List Nat):List Nat:=sts.map λn=>if(a0n nAlg nodes h nets n).getD 0 0=3 then 2 else(a0n nAlg nodes h nets n).getD 0 0
def e0f(h:Hk Nat):Prop:=(∀n v,v≤3→h.net n v≤3)∧∀n p v,v≤3→h.pin n p v≤3
theorem d3u:e0f hk0:=⟨λ_ _ h=>h,λ_ _ _ h=>h⟩
theorem e1a{f:Flt}{v:Nat}(h:v≤3):e0f (hkF f v):=by
 constructor
 ·intro n w hw;unfold hkF;dsimp only;split
  ·exact h
  ·exact hw
 ·intro n p w hw;unfold hkF;dsimp only;split
  ·exact h
  ·exact hw
theorem a7r{l:List Nat}(h:∀v∈l,v≤3)(n:Nat):l.getD n 0≤3:=by
 rw[List.getD];cases hn:l[n]? with
 |none=>decide
 |some v=>exact h v (List.mem_of_getElem? hn)
theorem c77{h:Hk Nat}(hh:e0f h){nets:List Nat}(hn:∀v∈nets,v≤3)(n:Nat):∀(l:List Nat) (p:Nat),∀v∈a2h nAlg h n nets p l,v≤3
 | [],p,v,hv=>by simp[a2h]at hv
 |m::l,p,v,hv=>by
  simp only[a2h,List.mem_cons]at hv;rcases hv with rfl|hv
  ·exact hh.2 _ _ _ (a7r hn m)
  ·exact c77 hh hn n l (p+1) v hv
theorem d2n(k:Nat)(l:List Nat):nAlg.ev k l≤3:=c7f k _ (λv hv=>by obtain⟨w,_,rfl⟩:=List.mem_map.1 hv;exact c8b w)
theorem d1k{nodes:List Nd}{h:Hk Nat}(hh:e0f h){nets:List Nat}(hn:∀v∈nets,v≤3)(n:Nat):∀v∈stepG nAlg nodes h nets n,v≤3:=by
 intro v hv;unfold stepG at hv;rcases List.mem_or_eq_of_mem_set hv with h1|h1
 ·exact hn v h1
 ·rw[h1];refine hh.1 _ _ ?_;split
  ·exact d2n _ _
  ·exact a7r hn n
theorem d46{nodes:List Nd}{h:Hk Nat}(hh:e0f h):∀(ord:List Nat) (nets:List Nat),(∀v∈nets,v≤3)→∀v∈ord.foldl (stepG nAlg nodes h) nets,v≤3
 | [],nets,hn=>hn
 |x::ord,nets,hn=>by rw[List.foldl_cons];exact d46 hh ord _ (d1k hh hn x)
theorem b68:∀(is vs N:List Nat),(∀v∈N,v≤3)→(∀v∈vs,v≤3)→∀v∈a1l N is vs,v≤3
 | [],vs,N,h,_=>by cases vs<;>exact h
 |_::_,[],N,h,_=>h
 |i::is,w::vs,N,h,hv=>by
  simp only[a1l];refine b68 is vs _ (λv hm=>?_) (λv hm=>hv v (List.mem_cons_of_mem _ hm));rcases List.mem_or_eq_of_mem_set hm with h1|h1
  ·exact h v h1
  ·rw[h1];exact hv w (List.mem_cons_self ..)
theorem c0u{nodes:List Nd}{h:Hk Nat}(hh:e0f h)(ord ins sts vi vs:List Nat)(hi:∀v∈vi,v≤3)(hs:∀v∈vs,v≤3):∀v∈b4n nAlg nodes h ord ins sts vi vs,v≤3:=d46 hh _ _ (b68 _ _ _ (b68 _ _ _ (λv hv=>by rw[List.eq_of_mem_replicate hv];show(0:Nat)≤3;decide) hi) hs)
structure Sim.good(S:Sim):Prop where
 perm:S.ord.Perm (List.range S.nodes.length)
 topo:e1w S.nodes S.ord
 comb:∀n,n<S.nodes.length→a0e S.nodes n≠0∧a0e S.nodes n≠14→a1o (a0e S.nodes n)=true
 inn:∀n,n<S.nodes.length→∀m∈a15 S.nodes n,m<S.nodes.length
 ins:∀n,n∈S.ins↔n<S.nodes.length∧a0e S.nodes n=0
 sts:∀n,n∈S.sts↔n<S.nodes.length∧a0e S.nodes n=14
 dff:∀n∈S.sts,a15 S.nodes n≠[]
 outs:∀n∈S.outs,n<S.nodes.length
section
variable {S:Sim}(hS:S.good){p:Pat}(oo:S.ins.length=p.ins.length)(kB:S.sts.length=p.sts.length)
include hS oo kB
theorem Sim.good.nets(h:Hk V2):S.nets vAlg h (p.ins.map a0k) (p.sts.map a0k)=S.nets vAlg0 h (p.ins.map a0k) (p.sts.map a0k):=e3n (A:=vAlg) (B:=vAlg0) rfl hS.perm hS.topo hS.comb hS.inn (λn hn hk=>(hS.ins n).2 ⟨hn,hk⟩) (λn hn hk=>(hS.sts n).2 ⟨hn,hk⟩) (λn hn=>((hS.ins n).1 hn).1) (λn hn=>((hS.sts n).1 hn).1) (by simpa using oo) (by simpa using kB)
omit oo kB in
theorem Sim.good.seen(h:Hk V2)(nets:List V2)(hl:nets.length=S.nodes.length):S.seen vAlg h nets=S.seen vAlg0 h nets:=e2t (λn hn=>by rw[hl];exact hS.outs n hn) (λn hn=>⟨hS.dff n hn,λm hm=>by rw[hl];exact hS.inn n ((hS.sts n).1 hn).1 m hm⟩)
theorem Sim.good.det(f:Flt)(hm:f.model=0→f.value≤3)(cj:f.node<S.nodes.length)(fW:f.other<S.nodes.length)(eI:∀v∈p.ins,v≤3)(sJ:∀v∈p.sts,v≤3) :
 S.det f p=(b2r (S.outs.map λn=>(S.nets nAlg hk0 p.ins p.sts).getD n 0) (S.outs.map λn=>(S.nets nAlg (hkF f (a18 nAlg (S.nets nAlg hk0 p.ins p.sts) f)) p.ins p.sts).getD n 0) ||
  b2r (S.sts.map λn=>a4t ((S.nets nAlg hk0 p.ins p.sts).getD ((a15 S.nodes n).getD 0 0) 0)) (a8s S.nodes (hkF f (a18 nAlg (S.nets nAlg hk0 p.ins p.sts) f)) (S.nets nAlg (hkF f (a18 nAlg (S.nets nAlg hk0 p.ins p.sts) f)) p.ins p.sts) S.sts)):=by
 have hG:S.nets vAlg hk0 (p.ins.map a0k) (p.sts.map a0k)=(S.nets nAlg hk0 p.ins p.sts).map a0k:=by rw[hS.nets oo kB];exact(b1t e8w c19 _ _ _ _ _).symm
 have rP:(S.nets nAlg hk0 p.ins p.sts).length=S.nodes.length:=a9u _ _ _ _ _;have mQ:∀v∈S.nets nAlg hk0 p.ins p.sts,v≤3:=c0u d3u _ _ _ _ _ eI sJ;generalize tg:S.nets nAlg hk0 p.ins p.sts=G at hG rP mQ;have hF:a18 vAlg (G.map a0k) f=a0k (a18 nAlg G f):=by
  have h1:=b9h e8w G f;rw[h1];unfold a18;have hz:∀n,n<S.nodes.length→(G.map a0k).getD n vAlg.z=(G.map a0k).getD n vAlg0.z:=λn hn=>by rw[List.getD,List.getD,List.getElem?_eq_getElem (by rw[List.length_map,rP];exact hn)];rfl
  rw[hz _ cj,hz _ fW];rfl
 have vI:a18 nAlg G f≤3:=by
  unfold a18;split
  ·rename_i h;exact hm h
  split
  ·exact a7r mQ _
  split<;>exact d2n _ _
 have hh:=e1a (f:=f) vI;have hB:S.nets vAlg (hkF f (a0k (a18 nAlg G f))) (p.ins.map a0k) (p.sts.map a0k)=(S.nets nAlg (hkF f (a18 nAlg G f)) p.ins p.sts).map a0k:=by rw[hS.nets oo kB];exact(b1t e8w (d3t f _) _ _ _ _ _).symm
 have kV:(S.nets nAlg (hkF f (a18 nAlg G f)) p.ins p.sts).length=S.nodes.length:=a9u _ _ _ _ _;have pY:∀v∈S.nets nAlg (hkF f (a18 nAlg G f)) p.ins p.sts,v≤3:=c0u hh _ _ _ _ _ eI sJ;unfold Sim.det;dsimp only;rw[hG,hF,hB];generalize a18 nAlg G f=q at hh hB kV pY⊢;generalize S.nets nAlg (hkF f q) p.ins p.sts=B at hB kV pY⊢;rw[hS.seen hk0 _ (by rw[List.length_map];exact rP),hS.seen (hkF f (a0k q)) _ (by rw[List.length_map];exact kV)];have e1:S.seen vAlg0 hk0 (G.map a0k)=(S.seen nAlg hk0 G).map a0k:=(b1m e8w c19 _ _ _).symm;have e2:S.seen vAlg0 (hkF f (a0k q)) (B.map a0k)=(S.seen nAlg (hkF f q) B).map a0k:=(b1m e8w (d3t f _) _ _ _).symm;rw[e1,e2];have key:∀(h:Hk Nat) (N:List Nat),e0f h→(∀v∈N,v≤3)→∀v∈S.seen nAlg h N,v≤3:=by
  intro h N hh hN v hv;unfold Sim.seen b5g at hv;rcases List.mem_append.1 hv with hv|hv
  ·obtain⟨n,_,rfl⟩:=List.mem_map.1 hv;exact a7r hN n
  ·obtain⟨n,_,rfl⟩:=List.mem_map.1 hv;exact a7r (λv hv=>c77 hh hN n _ _ v hv) 0
 rw[b88 _ _ _ (key _ _ d3u mQ) (key _ _ hh pY),Bool.false_or];unfold Sim.seen b5g;rw[b79 _ _ _ _ (by simp)]
 congr 1
 unfold a8s;refine c89 _ _ _ _ _ (λn hn=>?_);have hr:(a0n nAlg S.nodes hk0 G n).getD 0 0=G.getD ((a15 S.nodes n).getD 0 0) 0:=by
  have hd:=hS.dff n hn;unfold a0n;cases hi:a15 S.nodes n with
  |nil=>exact absurd hi hd
  |cons m l=>rfl
 have hx:G.getD ((a15 S.nodes n).getD 0 0) 0≤3:=a7r mQ _;have hy:(a0n nAlg S.nodes (hkF f q) B n).getD 0 0≤3:=a7r (λv hv=>c77 hh pY n _ _ v hv) 0;show con ((a0n nAlg S.nodes hk0 G n).getD 0 0) _=_;rw[hr,d9e hx hy];rfl
end
end Go.Pc
/- PcPack: words that are put together a30 by a30. Plain. -/
namespace Go.Pc
open Go.Ax
theorem c41:∀(a b:List W) (s:BitVec 64) (x y:W),a.length=b.length→c25 (a++[x]) (b++[y]) s=c25 a b s|||ctr x y
 | [],[],s,x,y,_=>rfl
 | [],_::_,_,_,_,h=>by simp at h
 |_::_,[],_,_,_,h=>by simp at h
 |a::as,b::bs,s,x,y,h=>by simp only[List.cons_append,c25];exact c41 as bs _ x y (by simpa using h)
theorem d4w{a b:List W}{i:Nat}{x y:W}(hx:a[i]?=some x)(hy:b[i]?=some y):c25 (a.take (i+1)) (b.take (i+1)) 0=c25 (a.take i) (b.take i) 0|||ctr x y:=by have l1:=(List.getElem?_eq_some_iff.1 hx).1;have l2:=(List.getElem?_eq_some_iff.1 hy).1;rw[a0v hx,a0v hy,c41];rw[List.length_take,List.length_take];omega
theorem d4x:∀(a b:List W) (s:BitVec 64),a.length≤b.length→c25 a (b.take a.length) s=c25 a b s
 | [],b,s,_=>by cases b<;>rfl
 |a::as,[],s,h=>by simp at h
 |a::as,b::bs,s,h=>by simp only[List.length_cons,List.take_succ_cons,c25];exact d4x as bs _ (by simpa using h)
theorem c3s{j n:Nat}(hj:j<64)(hn:n<64):(e5i n).getLsbD j=decide (j=n):=by
 have e:BitVec.ofInt 64 1=1#64:=by decide
 unfold e5i;rw[e,BitVec.getLsbD_shiftLeft,BitVec.getLsbD_one];simp only[hj,decide_true,Bool.true_and];by_cases h:j=n
 ·subst h;simp
 ·by_cases h2:j<n
  ·simp[h2,h]
  ·have:¬(j-n=0):=by omega
   simp[h2,h,this]
theorem c9m{j n:Nat}(hj:j<64)(hn:n<64)(w:W)(v:Nat):a30 j (a81 w n v)=if j=n then a0k v else a30 j w:=by
 have hf:=a8a hj v;have f1:(a1i v).one.getLsbD j=(a0k v).1:=congrArg Prod.fst hf;have f2:(a1i v).zero.getLsbD j=(a0k v).2:=congrArg Prod.snd hf;unfold a30 a81;simp only[BitVec.getLsbD_or,BitVec.getLsbD_and,BitVec.getLsbD_not,c3s hj hn,hj,decide_true,Bool.true_and,f1,f2];by_cases h:j=n
 ·simp[h]
 ·simp[h]
end Go.Pc
/- PcEach: many faults, one a30 each. Plain. -/
namespace Go.Pc
open Go.Ax
variable {j:Nat}
def wAt(w:W)(j:Nat):Nat:=match w.one.getLsbD j,w.zero.getLsbD j with
 |false,true=>0
 |true,false=>1
 |false,false=>2
 |true,true=>3
theorem d6c(w:W)(j:Nat):a0k (wAt w j)=a30 j w:=by unfold wAt a30;cases w.one.getLsbD j<;>cases w.zero.getLsbD j<;>rfl
def f3i(good:List W)(f:Flt)(j:Nat):Nat:=if f.model=0 then f.value else wAt (a18 a31 good f) j
theorem d19(hj:j<64)(good:List W)(f:Flt):a0k (f3i good f j)=a30 j (a18 a31 good f):=by
 unfold f3i;by_cases h:f.model=0
 ·rw[if_pos h];unfold a18;rw[if_pos h];exact(a8a hj f.value).symm
 ·rw[if_neg h,d6c]
def f4f(v:Nat→Nat)(l:List Nat)(w:W):W:=l.foldl (λw k=>a81 w k (v k)) w
theorem c3d(hj:j<64)(v:Nat→Nat):∀(l:List Nat) (w:W),(∀k∈l,k<64)→a30 j (f4f v l w)=if j∈l then a0k (v j)else a30 j w
 | [],w,_=>by simp[f4f]
 |k::l,w,h=>by
  have ih:=c3d hj v l (a81 w k (v k)) (λk hk=>h k (by simp[hk]));show a30 j (f4f v l (a81 w k (v k)))=_;rw[ih,c9m hj (h k (by simp))];by_cases h1:j∈l
  ·rw[if_pos h1,if_pos (by simp[h1])]
  ·rw[if_neg h1];by_cases h2:j=k
   ·rw[if_pos h2,if_pos (by simp[h2]),h2]
   ·rw[if_neg h2,if_neg (by simp[h1,h2])]
theorem d93(S:Sim){j:Nat}(hj:j<64)(f:Flt)(p:Pat)(vi vs:List W)(hi:vi.map (a30 j)=p.ins.map a0k)(hs:vs.map (a30 j)=p.sts.map a0k)(h':Hk W)(hh:HkHom (a30 j) h' (hkF f (a30 j (a18 a31 (S.nets a31 hk0 vi vs) f)))) :
 (c25 (S.seen a31 hk0 (S.nets a31 hk0 vi vs)) (S.seen a31 h' (S.nets a31 h' vi vs)) 0).getLsbD j=S.det f p:=by
 have hφ:=e40 hj;have dc:(S.nets a31 hk0 vi vs).map (a30 j)=S.nets vAlg hk0 (p.ins.map a0k) (p.sts.map a0k):=by rw[←hi,←hs];exact b1t hφ c19 S.ord S.ins S.sts vi vs
 have hf:a30 j (a18 a31 (S.nets a31 hk0 vi vs) f)=a18 vAlg (S.nets vAlg hk0 (p.ins.map a0k) (p.sts.map a0k)) f:=by rw[←dc];exact b9h hφ _ f
 rw[hf]at hh;have bH:(S.nets a31 h' vi vs).map (a30 j)=S.nets vAlg (hkF f (a18 vAlg (S.nets vAlg hk0 (p.ins.map a0k) (p.sts.map a0k)) f)) (p.ins.map a0k) (p.sts.map a0k):=by rw[←hi,←hs]at hh⊢;exact b1t hφ hh S.ord S.ins S.sts vi vs
 rw[c3e hj];have s0:(S.seen a31 hk0 (S.nets a31 hk0 vi vs)).map (a30 j)=S.seen vAlg hk0 (S.nets vAlg hk0 (p.ins.map a0k) (p.sts.map a0k)):=by rw[←dc];exact b1m hφ c19 S.outs S.sts _
 have s1:(S.seen a31 h' (S.nets a31 h' vi vs)).map (a30 j)=S.seen vAlg (hkF f (a18 vAlg (S.nets vAlg hk0 (p.ins.map a0k) (p.sts.map a0k)) f)) (S.nets vAlg (hkF f (a18 vAlg (S.nets vAlg hk0 (p.ins.map a0k) (p.sts.map a0k)) f)) (p.ins.map a0k) (p.sts.map a0k)):=by rw[←bH];exact b1m hφ hh S.outs S.sts _
 rw[s0,s1];unfold Sim.det;simp
end Go.Pc
