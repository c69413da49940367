/- PcWord: words of 64 values as d27 data. Plain definitions. -/
import Derived.Test.YtgmenpackpnmaaaGreatDoorPcCir
import Derived.Test.YtgmenpackpnmaaaGreatDoorAxE
set_option linter.unusedSimpArgs false
set_option linter.unusedVariables false
namespace Go.Pc
open Go.Ax
structure W where
 one:BitVec 64
 zero:BitVec 64
def W.enc (w:W):List AV:=[u64 w.one,u64 w.zero]
attribute [go_sem] W.enc
def a26 (v:Nat):Nat:=if 3 < v then 2 else v
def a2r (v:Nat):W:=match a26 v with
 | 0=>⟨0#64,BitVec.allOnes 64⟩
 | 1=>⟨BitVec.allOnes 64,0#64⟩
 | 2=>⟨0#64,0#64⟩
 | _=>⟨BitVec.allOnes 64,BitVec.allOnes 64⟩
def d11 (a b:W):W:=⟨a.one &&& b.one,a.zero ||| b.zero⟩
def wOr (a b:W):W:=⟨a.one ||| b.one,a.zero &&& b.zero⟩
def d10 (a b:W):W:=⟨a.one &&& b.zero ||| a.zero &&& b.one,a.one &&& b.one ||| a.zero &&& b.zero⟩
def a69 (f:W → W → W) (z:W) (l:List W):W:=l.foldl f z
def a50 (w:W):W:=⟨w.one &&& ~~~(w.one &&& w.zero),w.zero &&& ~~~(w.one &&& w.zero)⟩
def d5c (w:W):W:=⟨w.zero,w.one⟩
def e0s (s a b:W):W:=⟨s.zero &&& a.one ||| s.one &&& b.one ||| a.one &&& b.one,s.zero &&& a.zero ||| s.one &&& b.zero ||| a.zero &&& b.zero⟩
def e0r (e d:W):W:=⟨e.zero ||| e.one &&& d.one,e.zero ||| e.one &&& d.zero⟩
def d9r (s:BitVec 64 × BitVec 64 × BitVec 64) (w:W):BitVec 64 × BitVec 64 × BitVec 64:=(s.1 ||| (w.one &&& ~~~w.zero),s.2.1 ||| (w.zero &&& ~~~w.one),s.2.2 ||| ~~~(w.one ||| w.zero))
def c5o (l:List W):BitVec 64 × BitVec 64 × BitVec 64:=l.foldl d9r (BitVec.ofInt 64 0,BitVec.ofInt 64 0,BitVec.ofInt 64 0)
def e45 (s:BitVec 64 × BitVec 64 × BitVec 64):W:=⟨~~~s.2.1 &&& ~~~(s.2.2 ||| (s.1 &&& s.2.1)),~~~s.1 &&& ~~~(s.2.2 ||| (s.1 &&& s.2.1))⟩
def c68 (l:List W):W:=e45 (c5o l)
theorem b9x {l:List W} {i:Nat} {x:W} (h:l[i]? = some x):c5o (l.take (i + 1)) = d9r (c5o (l.take i)) x:=by
 unfold c5o;rw [a0z h,List.foldl_append];rfl
theorem b0u {f:W → W → W} {z:W} {l:List W} {i:Nat} {x:W} (h:l[i]? = some x):a69 f z (l.take (i + 1)) = f (a69 f z (l.take i)) x:=by
 unfold a69;rw [a0z h,List.foldl_append];rfl
theorem d9a (l:List W):FlatR (l.map W.enc):=FlatR.map fun _=>rfl
theorem a3k (l:List W):(l.map W.enc).flatMap a0e = []:=a06 (d9a l)
theorem a5i (π:Nat → Option Nat) (l:List W):(l.map W.enc).map (fun r=>r.map (ren π)) = l.map W.enc:=a04 π (d9a l)
attribute [go_sem] a3k a5i
def a1m (k:Nat):Nat:=[0,0,0,1,1,2,2,2,2,2,2,3,2,1,1,0].getD k 0
def a1n (k:Nat):Nat:=[0,0,0,1,1,16,16,16,16,16,16,3,2,16,1,0].getD k 0
def zW:W:=⟨0#64,0#64⟩
def a1x (k:Nat) (r:List W):W:=match k with
 | 1=>a2r 0
 | 2=>a2r 1
 | 3=>r.getD 0 zW
 | 4=>d5c (r.getD 0 zW)
 | 5=>a69 d11 (a2r 1) r
 | 6=>d5c (a69 d11 (a2r 1) r)
 | 7=>a69 wOr (a2r 0) r
 | 8=>d5c (a69 wOr (a2r 0) r)
 | 9=>a69 d10 (a2r 0) r
 | 10=>d5c (a69 d10 (a2r 0) r)
 | 11=>e0s (r.getD 0 zW) (r.getD 1 zW) (r.getD 2 zW)
 | 12=>e0r (r.getD 0 zW) (r.getD 1 zW)
 | _=>a2r 2
def a41 (k:Nat) (l:List W):W:=
 if l.length < a1m k ∨ a1n k < l.length then a2r 2
 else if k = 13 then c68 l
 else a1x k (l.map a50)
def rdW (l:List W) (i:Nat):List W:=(l.take i).map a50 ++ List.replicate (l.length - i) zW
theorem c2i (l:List W):rdW l 0 = List.replicate l.length zW:=by simp [rdW]
theorem c7i (l:List W):rdW l l.length = l.map a50:=by simp [rdW]
theorem c7h {l:List W} {i:Nat} (h:i < l.length):(rdW l i)[i]? = some zW:=by
 unfold rdW
 rw [List.getElem?_append_right (by simp;omega)]
 simp [List.getElem?_replicate]
 omega
theorem d7s {l:List W} {i:Nat} {x:W} (h:l[i]? = some x):(rdW l i).set i (a50 x) = rdW l (i + 1):=by
 have hi:=(List.getElem?_eq_some_iff.1 h).1
 unfold rdW
 rw [List.set_append_right _ _ (by simp;omega),a0z h,List.map_append,List.append_assoc]
 congr 1
 have e:l.length - i = (l.length - (i + 1)) + 1:=by omega
 rw [e,List.replicate_succ]
 have e2:i - ((l.take i).map a50).length = 0:=by simp;omega
 rw [e2]
 rfl
theorem c2j {l:List W} {i:Nat} {x:W} (h:l[i]? = some x):((rdW l i).map W.enc).set i [u64 (a50 x).one,u64 (a50 x).zero] = (rdW l (i + 1)).map W.enc:=by
 rw [← d7s h,List.map_set];rfl
def d9t (n:Nat):BitVec 64:=BitVec.ofInt 64 1 <<< n
def b1j (w:W) (n v:Nat):W:=⟨w.one &&& ~~~d9t n ||| (a2r v).one &&& d9t n,w.zero &&& ~~~d9t n ||| (a2r v).zero &&& d9t n⟩
def a1s (k:Nat):Bool:=decide (1 ≤ k) && decide (k ≤ 13)
end Go.Pc
/- PcSim: one cycle of a circuit, over words or over single values; lanes of words are single values. Plain definitions. -/
namespace Go.Pc
open Go.Ax
structure Alg (α:Type) where
 ev:Nat → List α → α
 z:α
 fill:Nat → α
structure Hk (α:Type) where
 net:Nat → α → α
 pin:Nat → Nat → α → α
structure Flt where
 model:Nat
 node:Nat
 pin:Int
 value:Nat
 other:Nat
def Flt.enc (f:Flt):List AV:=[.int .u8 f.model,.int .i64 f.node,.int .i64 f.pin,.int .u8 f.value,.int .i64 f.other]
structure Pat where
 ic:Rep
 ins:List Nat
 sc:Rep
 sts:List Nat
def Pat.enc (p:Pat):List AV:=[sl p.ic (p.ins.map u8R),sl p.sc (p.sts.map u8R)]
section
variable {α:Type} (A:Alg α) (nodes:List Nd) (h:Hk α)
def a0q (nodes:List Nd) (n:Nat):Nat:=(nodes[n]?.map Nd.kind).getD 0
def a22 (nodes:List Nd) (n:Nat):List Nat:=(nodes[n]?.map Nd.ins).getD []
def a33 (n:Nat) (nets:List α):Nat → List Nat → List α
 | _,[]=>[]
 | p,m :: r=>h.pin n p (nets.getD m A.z) :: a33 n nets (p + 1) r
def a0p (nets:List α) (n:Nat):List α:=a33 A h n nets 0 (a22 nodes n)
def stepG (nets:List α) (n:Nat):List α:=
 nets.set n (h.net n (if a0q nodes n ≠ 0 ∧ a0q nodes n ≠ 14 then A.ev (a0q nodes n) (a0p A nodes h nets n) else nets.getD n A.z))
def a1i (nets:List α):List Nat → List α → List α
 | i :: is,v :: vs=>a1i (nets.set i v) is vs
 | _,_=>nets
def b1x (ord ins sts:List Nat) (vi vs:List α):List α:=
 ord.foldl (stepG A nodes h) (a1i (a1i (List.replicate nodes.length A.z) ins vi) sts vs)
def b2m (outs sts:List Nat) (nets:List α):List α:=
 outs.map (fun n=>nets.getD n A.z) ++ sts.map (fun n=>(a0p A nodes h nets n).getD 0 A.z)
def hk0:Hk α:=⟨fun _ w=>w,fun _ _ w=>w⟩
def a16 (good:List α) (f:Flt):α:=
 if f.model = 0 then A.fill f.value
 else if f.model = 3 then good.getD f.other A.z
 else if f.value = 0 then A.ev 5 [good.getD f.node A.z,good.getD f.other A.z]
 else A.ev 7 [good.getD f.node A.z,good.getD f.other A.z]
def Flt.hitsNet (f:Flt) (n:Nat):Bool:=decide (f.pin < 0) && (decide (n = f.node) || (decide (f.model = 2) && decide (n = f.other)))
def Flt.hitsPin (f:Flt) (n p:Nat):Bool:=decide (0 ≤ f.pin) && (decide (n = f.node) && decide ((p:Int) = f.pin))
def hkF (f:Flt) (v:α):Hk α:=⟨fun n w=>if f.hitsNet n then v else w,fun n p w=>if f.hitsPin n p then v else w⟩
end
structure Hom {α β:Type} (A:Alg α) (B:Alg β) (φ:α → β):Prop where
 ev:∀ k l,φ (A.ev k l) = B.ev k (l.map φ)
 z:φ A.z = B.z
 fill:∀ v,φ (A.fill v) = B.fill v
structure HkHom {α β:Type} (φ:α → β) (h:Hk α) (k:Hk β):Prop where
 net:∀ n w,φ (h.net n w) = k.net n (φ w)
 pin:∀ n p w,φ (h.pin n p w) = k.pin n p (φ w)
section
variable {α β:Type} {A:Alg α} {B:Alg β} {φ:α → β} (hφ:Hom A B φ) {nodes:List Nd} {h:Hk α} {k:Hk β} (hk:HkHom φ h k)
include hφ
theorem a7p (l:List α) (n:Nat):φ (l.getD n A.z) = (l.map φ).getD n B.z:=by
 simp only [List.getD_eq_getElem?_getD,List.getElem?_map]
 cases l[n]? with
 | none=>exact hφ.z
 | some x=>rfl
include hk
theorem b2t (n:Nat) (nets:List α):∀ (l:List Nat) (p:Nat),(a33 A h n nets p l).map φ = a33 B k n (nets.map φ) p l
 | [],_=>rfl
 | m :: r,p=>by simp only [a33,List.map_cons,hk.pin,a7p hφ,b2t n nets r (p + 1)]
theorem b5a (nets:List α) (n:Nat):(a0p A nodes h nets n).map φ = a0p B nodes k (nets.map φ) n:=b2t hφ hk n nets _ 0
theorem c6j (nets:List α) (n:Nat):(stepG A nodes h nets n).map φ = stepG B nodes k (nets.map φ) n:=by
 unfold stepG
 rw [List.map_set,hk.net]
 congr 2
 split
 ·rw [hφ.ev,b5a hφ hk]
 ·exact a7p hφ _ _
omit hk in
omit hφ in
theorem b37:∀ (is:List Nat) (vs:List α) (nets:List α),(a1i nets is vs).map φ = a1i (nets.map φ) is (vs.map φ)
 | [],vs,nets=>by cases vs<;>rfl
 | i :: is,[],nets=>rfl
 | i :: is,v :: vs,nets=>by simp only [a1i,List.map_cons,b37 is vs,List.map_set]
theorem b02 (ord ins sts:List Nat) (vi vs:List α):(b1x A nodes h ord ins sts vi vs).map φ = b1x B nodes k ord ins sts (vi.map φ) (vs.map φ):=by
 unfold b1x
 have key:∀ (ord:List Nat) (n0:List α),(ord.foldl (stepG A nodes h) n0).map φ = ord.foldl (stepG B nodes k) (n0.map φ):=by
  intro ord
  induction ord with
  | nil=>intro n0;rfl
  | cons a l ih=>intro n0;simp only [List.foldl_cons,ih,c6j hφ hk]
 rw [key,b37,b37,List.map_replicate,hφ.z]
theorem a9s (outs sts:List Nat) (nets:List α):(b2m A nodes h outs sts nets).map φ = b2m B nodes k outs sts (nets.map φ):=by
 unfold b2m
 simp only [List.map_append,List.map_map]
 congr 1
 ·exact List.map_congr_left fun n _=>a7p hφ _ _
 ·refine List.map_congr_left fun n _=>?_
  simp only [Function.comp,a7p hφ,b5a hφ hk]
omit hk in
theorem b5s (good:List α) (f:Flt):φ (a16 A good f) = a16 B (good.map φ) f:=by
 unfold a16
 split
 ·exact hφ.fill _
 split
 ·exact a7p hφ _ _
 split
 ·rw [hφ.ev];simp only [List.map_cons,List.map_nil,a7p hφ]
 ·rw [hφ.ev];simp only [List.map_cons,List.map_nil,a7p hφ]
omit hk hφ in
theorem b77:HkHom φ (hk0:Hk α) (hk0:Hk β):=⟨fun _ _=>rfl,fun _ _ _=>rfl⟩
omit hk hφ in
theorem c1l (f:Flt) (v:α):HkHom φ (hkF f v) (hkF f (φ v)):=⟨fun n w=>by unfold hkF;dsimp only;split<;>rfl,fun n p w=>by unfold hkF;dsimp only;split<;>rfl⟩
end
/-! ### single values -/
abbrev V2:=Bool × Bool
def a0l (v:Nat):V2:=match a26 v with
 | 0=>(false,true)
 | 1=>(true,false)
 | 2=>(false,false)
 | _=>(true,true)
def c0i (a b:V2):V2:=(a.1 && b.1,a.2 || b.2)
def vOr (a b:V2):V2:=(a.1 || b.1,a.2 && b.2)
def c0g (a b:V2):V2:=(a.1 && b.2 || a.2 && b.1,a.1 && b.1 || a.2 && b.2)
def b69 (w:V2):V2:=(w.1 && !(w.1 && w.2),w.2 && !(w.1 && w.2))
def c5z (w:V2):V2:=(w.2,w.1)
def e0u (s a b:V2):V2:=(s.2 && a.1 || s.1 && b.1 || a.1 && b.1,s.2 && a.2 || s.1 && b.2 || a.2 && b.2)
def e0t (e d:V2):V2:=(e.2 || e.1 && d.1,e.2 || e.1 && d.2)
def b68 (s:Bool × Bool × Bool) (w:V2):Bool × Bool × Bool:=(s.1 || (w.1 && !w.2),s.2.1 || (w.2 && !w.1),s.2.2 || !(w.1 || w.2))
def d6n (s:Bool × Bool × Bool):V2:=(!s.2.1 && !(s.2.2 || (s.1 && s.2.1)),!s.1 && !(s.2.2 || (s.1 && s.2.1)))
def e26 (l:List V2):V2:=d6n (l.foldl b68 (false,false,false))
def c25 (k:Nat) (r:List V2):V2:=match k with
 | 1=>a0l 0
 | 2=>a0l 1
 | 3=>r.getD 0 (false,false)
 | 4=>c5z (r.getD 0 (false,false))
 | 5=>r.foldl c0i (a0l 1)
 | 6=>c5z (r.foldl c0i (a0l 1))
 | 7=>r.foldl vOr (a0l 0)
 | 8=>c5z (r.foldl vOr (a0l 0))
 | 9=>r.foldl c0g (a0l 0)
 | 10=>c5z (r.foldl c0g (a0l 0))
 | 11=>e0u (r.getD 0 (false,false)) (r.getD 1 (false,false)) (r.getD 2 (false,false))
 | 12=>e0t (r.getD 0 (false,false)) (r.getD 1 (false,false))
 | _=>a0l 2
def c0h (k:Nat) (l:List V2):V2:=
 if l.length < a1m k ∨ a1n k < l.length then a0l 2
 else if k = 13 then e26 l
 else c25 k (l.map b69)
def a20:Alg W:=⟨a41,zW,a2r⟩
def vAlg:Alg V2:=⟨c0h,(false,false),a0l⟩
def a38 (j:Nat) (w:W):V2:=(w.one.getLsbD j,w.zero.getLsbD j)
section
variable {j:Nat} (hj:j < 64)
include hj
theorem b06 (v:Nat):a38 j (a2r v) = a0l v:=by
 have ha:(BitVec.allOnes 64).getLsbD j = true:=by rw [BitVec.getLsbD_allOnes];simpa using hj
 have hz:(0#64).getLsbD j = false:=BitVec.getLsbD_zero
 unfold a2r a0l
 split<;>simp only [a38,ha,hz, *]
theorem c8i (w:W):a38 j (a50 w) = b69 (a38 j w):=by
 simp [a50,b69,a38,hj]
omit hj in
theorem d30 (a b:W):a38 j (d11 a b) = c0i (a38 j a) (a38 j b):=by simp [d11,c0i,a38]
omit hj in
theorem d8n (a b:W):a38 j (wOr a b) = vOr (a38 j a) (a38 j b):=by simp [wOr,vOr,a38]
omit hj in
theorem d2v (a b:W):a38 j (d10 a b) = c0g (a38 j a) (a38 j b):=by simp [d10,c0g,a38]
omit hj in
theorem d2x (a:W):a38 j (d5c a) = c5z (a38 j a):=rfl
omit hj in
theorem d2y (s a b:W):a38 j (e0s s a b) = e0u (a38 j s) (a38 j a) (a38 j b):=by simp [e0s,e0u,a38]
omit hj in
theorem d2w (a b:W):a38 j (e0r a b) = e0t (a38 j a) (a38 j b):=by simp [e0r,e0t,a38]
omit hj in
theorem b05 {f:W → W → W} {g:V2 → V2 → V2} (h:∀ a b,a38 j (f a b) = g (a38 j a) (a38 j b)):∀ (l:List W) (z:W),a38 j (l.foldl f z) = (l.map (a38 j)).foldl g (a38 j z)
 | [],_=>rfl
 | a :: l,z=>by simp only [List.foldl_cons,List.map_cons,b05 h l,h]
def b91 (j:Nat) (s:BitVec 64 × BitVec 64 × BitVec 64):Bool × Bool × Bool:=(s.1.getLsbD j,s.2.1.getLsbD j,s.2.2.getLsbD j)
theorem c8l (s:BitVec 64 × BitVec 64 × BitVec 64) (w:W):b91 j (d9r s w) = b68 (b91 j s) (a38 j w):=by
 simp [b91,d9r,b68,a38,hj]
theorem c8m (s:BitVec 64 × BitVec 64 × BitVec 64):a38 j (e45 s) = d6n (b91 j s):=by
 simp [b91,e45,d6n,a38,hj]
theorem d2z (l:List W):a38 j (c68 l) = e26 (l.map (a38 j)):=by
 unfold c68 e26 c5o
 rw [c8m hj]
 congr 1
 have key:∀ (l:List W) s,b91 j (l.foldl d9r s) = (l.map (a38 j)).foldl b68 (b91 j s):=by
  intro l
  induction l with
  | nil=>intro s;rfl
  | cons a l ih=>intro s;simp only [List.foldl_cons,List.map_cons,ih,c8l hj]
 rw [key]
 congr 1
 simp [b91]
omit hj in
theorem c8j (l:List W) (n:Nat):a38 j (l.getD n zW) = (l.map (a38 j)).getD n (false,false):=by
 simp only [List.getD_eq_getElem?_getD,List.getElem?_map]
 cases l[n]? with
 | none=>simp [a38,zW]
 | some x=>rfl
theorem c4t (k:Nat) (l:List W):a38 j (a1x k l) = c25 k (l.map (a38 j)):=by
 unfold a1x c25
 split<;>simp only [b06 hj,d2x,d2y,d2w,c8j,a69,b05 d30,b05 d8n,b05 d2v]
theorem c8k (k:Nat) (l:List W):a38 j (a41 k l) = c0h k (l.map (a38 j)):=by
 unfold a41 c0h
 rw [List.length_map]
 split
 ·exact b06 hj 2
 split
 ·exact d2z hj l
 ·rw [c4t hj,List.map_map,List.map_map]
  congr 1
  exact List.map_congr_left fun w _=>c8i hj w
theorem d8o:Hom a20 vAlg (a38 j):=⟨c8k hj,by simp [a20,vAlg,a38,zW],b06 hj⟩
end
/-! ### contradictions -/
def ctr (x y:W):BitVec 64:=(x.one &&& ~~~x.zero &&& y.zero &&& ~~~y.one) ||| (x.zero &&& ~~~x.one &&& y.one &&& ~~~y.zero)
def e4l (x y:V2):Bool:=(x.1 && !x.2 && y.2 && !y.1) || (x.2 && !x.1 && y.1 && !y.2)
def b84:List W → List W → BitVec 64 → BitVec 64
 | x :: xs,y :: ys,s=>b84 xs ys (s ||| ctr x y)
 | _,_,s=>s
def b86:List V2 → List V2 → Bool → Bool
 | x :: xs,y :: ys,s=>b86 xs ys (s || e4l x y)
 | _,_,s=>s
theorem b90 {j:Nat} (hj:j < 64):∀ (a b:List W) (s:BitVec 64),(b84 a b s).getLsbD j = b86 (a.map (a38 j)) (b.map (a38 j)) (s.getLsbD j)
 | [],b,s=>by cases b<;>rfl
 | x :: xs,[],s=>rfl
 | x :: xs,y :: ys,s=>by
  simp only [b84,b86,List.map_cons,b90 hj xs ys]
  congr 1
  simp [ctr,e4l,a38,hj]
/-! ### a circuit -/
structure Sim where
 nodes:List Nd
 ord:List Nat
 ins:List Nat
 sts:List Nat
 outs:List Nat
section
variable {α:Type} (A:Alg α) (S:Sim)
def Sim.nets (h:Hk α) (vi vs:List α):List α:=b1x A S.nodes h S.ord S.ins S.sts vi vs
def Sim.seen (h:Hk α) (nets:List α):List α:=b2m A S.nodes h S.outs S.sts nets
end
def Sim.det (S:Sim) (f:Flt) (p:Pat):Bool:=
 let vi:=p.ins.map a0l
 let vs:=p.sts.map a0l
 let good:=S.nets vAlg hk0 vi vs
 let h:=hkF f (a16 vAlg good f)
 b86 (S.seen vAlg hk0 good) (S.seen vAlg h (S.nets vAlg h vi vs)) false
end Go.Pc
/- PcWf: the circuits of the statements are valid. Plain. -/
namespace Go.Pc
open Go.Ax
structure Cir.wf (c:Cir):Prop where
 pos:0 < c.nodes.length
 len:c.nodes.length ≤ 14
 names:c.names = (List.range c.nodes.length).map a3c
 kind:∀ x ∈ c.nodes,x.kind ≤ 14
 lo:∀ x ∈ c.nodes,a1m x.kind ≤ x.ins.length
 hi:∀ x ∈ c.nodes,x.ins.length ≤ a1n x.kind
 ins:∀ x ∈ c.nodes,∀ m ∈ x.ins,m < c.nodes.length
 bus:∀ x ∈ c.nodes,x.kind = 13 → ∀ m ∈ x.ins,a0q c.nodes m = 12
 mem:∀ x ∈ c.nodes,x.mem = 0 ∧ x.bit = 0
 acyc:∀ (i:Nat) (x:Nd),c.nodes[i]? = some x → a1s x.kind = true → ∀ m ∈ x.ins,m < i
 outs:∀ o ∈ c.outs,o < c.nodes.length
 outl:c.outs.length ≤ 4
theorem d9d {k:Nat} (h:k < 6):a1m (5 + k) = 2 ∧ a1n (5 + k) = 16:=by
 have:k = 0 ∨ k = 1 ∨ k = 2 ∨ k = 3 ∨ k = 4 ∨ k = 5:=by omega
 rcases this with rfl|rfl|rfl|rfl|rfl|rfl<;>exact ⟨rfl,rfl⟩
structure GateOk (ks:List Nat) (x:Nd):Prop where
 k1:1 ≤ x.kind
 k13:x.kind ≤ 13
 lo:a1m x.kind ≤ x.ins.length
 hi:x.ins.length ≤ a1n x.kind
 ins:∀ m ∈ x.ins,m < ks.length
 bus:x.kind = 13 → ∀ m ∈ x.ins,ks[m]? = some 12
 mem:x.mem = 0 ∧ x.bit = 0
theorem c26 {ks:List Nat} {i:Nat} (h:i < (a93 ks).length):(a93 ks).getD i 0 < ks.length ∧ ks[(a93 ks).getD i 0]? = some 12:=by
 have:(a93 ks).getD i 0 ∈ a93 ks:=by
  rw [List.getD,List.getElem?_eq_getElem h];exact List.getElem_mem h
 exact c44 this
theorem c94 (bus:Bool) (g:GX) (ks:List Nat) (hp:0 < ks.length):GateOk ks (a0n bus g ks):=by
 have a:=Nat.mod_lt g.i0 hp
 have b:=Nat.mod_lt g.i1 hp
 have d:=Nat.mod_lt g.i2 hp
 unfold a0n
 dsimp only
 generalize (if bus = true then g.kind % 13 else g.kind % 9) = kind
 split
 ·rename_i h6
  obtain ⟨e1,e2⟩:=d9d h6
  split
  ·exact ⟨by dsimp only;omega,by dsimp only;omega,by simp [e1],by simp [e2],by simp [a,b,d],by dsimp only;omega,⟨rfl,rfl⟩⟩
  ·exact ⟨by dsimp only;omega,by dsimp only;omega,by simp [e1],by simp [e2],by simp [a,b],by dsimp only;omega,⟨rfl,rfl⟩⟩
 split
 ·exact ⟨by dsimp only;omega,by dsimp only;omega,by simp [a1m],by simp [a1n],by simp [a],by simp,⟨rfl,rfl⟩⟩
 split
 ·exact ⟨by dsimp only;omega,by dsimp only;omega,by simp [a1m],by simp [a1n],by simp [a,b,d],by simp,⟨rfl,rfl⟩⟩
 split
 ·exact ⟨by dsimp only;omega,by dsimp only;omega,by simp [a1m],by simp [a1n],by simp [a,b],by simp,⟨rfl,rfl⟩⟩
 split
 ·rename_i h
  have t0:=c26 (Nat.mod_lt g.i0 h.2)
  split
  ·have t1:=c26 (Nat.mod_lt (g.i0 % (a93 ks).length + 1) h.2)
   refine ⟨by dsimp only;omega,by dsimp only;omega,by simp [a1m],by simp [a1n],?_,?_,⟨rfl,rfl⟩⟩
   ·intro m hm;simp only [List.mem_cons,List.not_mem_nil,or_false] at hm;rcases hm with rfl|rfl;exact t0.1;exact t1.1
   ·intro _ m hm;simp only [List.mem_cons,List.not_mem_nil,or_false] at hm;rcases hm with rfl|rfl;exact t0.2;exact t1.2
  ·refine ⟨by dsimp only;omega,by dsimp only;omega,by simp [a1m],by simp [a1n],?_,?_,⟨rfl,rfl⟩⟩
   ·intro m hm;simp only [List.mem_cons,List.not_mem_nil,or_false] at hm;subst hm;exact t0.1
   ·intro _ m hm;simp only [List.mem_cons,List.not_mem_nil,or_false] at hm;subst hm;exact t0.2
 split
 ·have:g.i0 % 2 = 0 ∨ g.i0 % 2 = 1:=by omega
  rcases this with h|h<;>rw [h]<;>exact ⟨by dsimp only;omega,by dsimp only;omega,by simp [a1m],by simp [a1n],by simp,by simp,⟨rfl,rfl⟩⟩
 ·exact ⟨by dsimp only;omega,by dsimp only;omega,by simp [a1m],by simp [a1n],by simp [a],by simp,⟨rfl,rfl⟩⟩
theorem d5z (bus:Bool):∀ (l:List GX) (ks:List Nat) (i:Nat) (x:Nd),(gN bus ks l)[i]? = some x → ∃ g,x = a0n bus g (ks ++ ((gN bus ks l).take i).map Nd.kind)
 | [],ks,i,x,h=>by simp [gN] at h
 | g :: l,ks,0,x,h=>by simp only [gN,List.getElem?_cons_zero,Option.some.injEq] at h;exact ⟨g,by rw [← h];simp⟩
 | g :: l,ks,i + 1,x,h=>by
  simp only [gN,List.getElem?_cons_succ] at h
  obtain ⟨g',hg⟩:=d5z bus l _ i x h
  exact ⟨g',by rw [hg];simp [gN]⟩
theorem CX.dn_len (x:CX):x.dn.length = x.d:=by
 have:x.d < 3:=Nat.mod_lt _ (by omega)
 unfold CX.dn;rw [List.length_map,List.length_take];simp;omega
theorem CX.nodes_len (x:CX):x.nodes.length = x.n:=by
 unfold CX.nodes CX.n
 rw [List.length_append,List.length_append,List.length_replicate,x.dn_len,a56]
theorem CX.dn_kind (x:CX):x.dn.map Nd.kind = List.replicate x.d 14:=by
 have:x.d = 0 ∨ x.d = 1 ∨ x.d = 2:=by have:x.d < 3:=Nat.mod_lt _ (by omega);omega
 unfold CX.dn
 rcases this with h|h|h<;>rw [h]<;>rfl
theorem CX.base_len (x:CX):x.base.length = x.k + x.d:=by unfold CX.base;simp
theorem CX.kinds (x:CX):x.nodes.map Nd.kind = x.base ++ (gN x.bus x.base x.gs).map Nd.kind:=by
 unfold CX.nodes CX.base
 rw [List.map_append,List.map_append,List.map_replicate,x.dn_kind]
 rfl
theorem CX.node_cases (x:CX) {i:Nat} {nd:Nd} (h:x.nodes[i]? = some nd):nd = a9n ∨ (∃ v,nd = a3z (v % x.n)) ∨ GateOk ((x.nodes.map Nd.kind).take i) nd:=by
 unfold CX.nodes at h
 by_cases h1:i < x.k
 ·rw [List.append_assoc,List.getElem?_append_left (by simpa using h1),List.getElem?_replicate,if_pos h1] at h
  exact .inl (Option.some.inj h).symm
 rw [List.append_assoc,List.getElem?_append_right (by simpa using h1),List.length_replicate] at h
 by_cases h2:i - x.k < x.d
 ·rw [List.getElem?_append_left (by rw [x.dn_len];exact h2)] at h
  unfold CX.dn at h
  rw [List.getElem?_map] at h
  cases hv:([x.d0,x.d1].take x.d)[i - x.k]? with
  | none=>rw [hv] at h;cases h
  | some v=>rw [hv] at h;exact .inr (.inl ⟨v,(Option.some.inj h).symm⟩)
 ·rw [List.getElem?_append_right (by rw [x.dn_len];omega),x.dn_len] at h
  obtain ⟨g,hg⟩:=d5z _ _ _ _ _ h
  refine .inr (.inr ?_)
  have e:(x.nodes.map Nd.kind).take i = x.base ++ ((gN x.bus x.base x.gs).take (i - x.k - x.d)).map Nd.kind:=by
   rw [x.kinds,List.take_append,List.take_of_length_le (by rw [x.base_len];omega),x.base_len,List.map_take]
   congr 2;omega
  rw [e,hg]
  exact c94 _ _ _ (by
   rw [List.length_append,x.base_len];have:0 < x.k:=by unfold CX.k;omega
   omega)
theorem CX.wf (x:CX):x.cir.wf:=by
 have hn:=x.nodes_len
 have hk:x.k ≤ 4 ∧ 0 < x.k:=by unfold CX.k;omega
 have hd:x.d < 3:=Nat.mod_lt _ (by omega)
 have hg:x.gs.length ≤ 8:=by unfold CX.gs;rw [List.length_take];omega
 have hnn:x.n = x.k + x.d + x.gs.length:=rfl
 have key:∀ nd ∈ x.nodes,∃ i,x.nodes[i]? = some nd ∧ i < x.n:=by
  intro nd h
  obtain ⟨i,hi⟩:=List.mem_iff_getElem?.1 h
  exact ⟨i,hi,by rw [← hn];exact (List.getElem?_eq_some_iff.1 hi).1⟩
 have hl:∀ i,i < x.n → ((x.nodes.map Nd.kind).take i).length = i:=fun i hi=>by rw [List.length_take,List.length_map,hn];omega
 have hsrc:∀ nd ∈ x.nodes,nd = a9n ∨ (∃ v,nd = a3z (v % x.n)) ∨ ∃ i,i < x.n ∧ GateOk ((x.nodes.map Nd.kind).take i) nd:=by
  intro nd h
  obtain ⟨i,hi,hlt⟩:=key nd h
  rcases x.node_cases hi with h|h|h
  ·exact .inl h
  ·exact .inr (.inl h)
  ·exact .inr (.inr ⟨i,hlt,h⟩)
 refine ⟨by show 0 < x.nodes.length;omega,by show x.nodes.length ≤ 14;omega,by show x.names = _;rw [show x.cir.nodes = x.nodes from rfl,hn];rfl,?_,?_,?_,?_,?_,?_,?_,?_,?_⟩
 ·intro nd h
  rcases hsrc nd h with rfl|⟨v,rfl⟩|⟨i,hi,h⟩
  ·decide
  ·exact Nat.le_refl 14
  ·have:=h.k13;omega
 ·intro nd h
  rcases hsrc nd h with rfl|⟨v,rfl⟩|⟨i,hi,h⟩
  ·decide
  ·exact Nat.le_refl 1
  ·exact h.lo
 ·intro nd h
  rcases hsrc nd h with rfl|⟨v,rfl⟩|⟨i,hi,h⟩
  ·decide
  ·exact Nat.le_refl 1
  ·exact h.hi
 ·intro nd h m hm
  show m < x.nodes.length
  rw [hn]
  rcases hsrc nd h with rfl|⟨v,rfl⟩|⟨i,hi,h⟩
  ·simp [a9n] at hm
  ·simp only [a3z,List.mem_cons,List.not_mem_nil,or_false] at hm;subst hm;exact Nat.mod_lt _ (by omega)
  ·have:=h.ins m hm;rw [hl i hi] at this;omega
 ·intro nd h h13 m hm
  rcases hsrc nd h with rfl|⟨v,rfl⟩|⟨i,hi,h⟩
  ·simp [a9n] at hm
  ·simp [a3z] at h13
  ·have h1:=h.bus h13 m hm
   have h2:=h.ins m hm
   rw [hl i hi] at h2
   rw [List.getElem?_take,if_pos h2,List.getElem?_map] at h1
   show a0q x.nodes m = 12
   unfold a0q
   rw [h1];rfl
 ·intro nd h
  rcases hsrc nd h with rfl|⟨v,rfl⟩|⟨i,hi,h⟩
  ·exact ⟨rfl,rfl⟩
  ·exact ⟨rfl,rfl⟩
  ·exact h.mem
 ·intro i nd h hc m hm
  have hlt:i < x.n:=by rw [← hn];exact (List.getElem?_eq_some_iff.1 h).1
  rcases x.node_cases h with rfl|⟨v,rfl⟩|h
  ·simp [a9n] at hm
  ·simp [a3z,a1s] at hc
  ·have:=h.ins m hm;rw [hl i hlt] at this;exact this
 ·intro o ho
  show o < x.nodes.length
  rw [hn]
  have ho:o ∈ x.outN:=ho
  unfold CX.outN at ho
  simp only [List.mem_append,List.mem_map,List.mem_cons,List.not_mem_nil,or_false] at ho
  rcases ho with ⟨a,_,rfl⟩|rfl
  ·exact Nat.mod_lt _ (by omega)
  ·omega
 ·show x.outN.length ≤ 4
  unfold CX.outN;simp;omega
end Go.Pc
/- PcFan: which pins read a net. Plain. -/
namespace Go.Pc
open Go.Ax
def a8d (l:Nat × Nat):List AV:=[.int .i64 l.1,.int .i64 l.2]
def cnt (L:List (Nat × Nat)) (a:Nat):Nat:=(L.map (·.1)).count a
structure FoOk (nodes:List Nd) (i k:Nat) (fo:List (List (Nat × Nat))):Prop where
 len:fo.length = nodes.length
 num:∀ (j:Nat) (L:List (Nat × Nat)),fo[j]? = some L → ∀ a,cnt L a = if a < i then (a22 nodes a).count j else if a = i then ((a22 nodes i).take k).count j else 0
theorem FoOk.zero (nodes:List Nd):FoOk nodes 0 0 (List.replicate nodes.length []):=by
 refine ⟨by simp,fun j L h a=>?_⟩
 rw [List.getElem?_replicate] at h
 split at h
 ·cases h;simp [Pc.cnt]
 ·cases h
theorem FoOk.step {nodes:List Nd} {i k m:Nat} {fo:List (List (Nat × Nat))} {L:List (Nat × Nat)} (h:FoOk nodes i k fo) (hm:(a22 nodes i)[k]? = some m) (hL:fo[m]? = some L):FoOk nodes i (k + 1) (fo.set m (L ++ [(i,k)])):=by
 refine ⟨by rw [List.length_set,h.len],fun j L' hj a=>?_⟩
 have ht:=a0z hm
 rw [List.getElem?_set] at hj
 have hml:m < fo.length:=(List.getElem?_eq_some_iff.1 hL).1
 by_cases hmj:m = j
 ·subst hmj
  simp only [if_true,hml,Option.some.injEq] at hj
  subst hj
  have:=h.num m L hL a
  have e:Pc.cnt (L ++ [(i,k)]) a = Pc.cnt L a + if i = a then 1 else 0:=by
   unfold Pc.cnt
   rw [List.map_append,List.count_append]
   by_cases hia:i = a
   ·subst hia;simp
   ·simp [hia,List.count_cons]
  rw [e,this,ht]
  by_cases h1:a < i
  ·simp [h1];omega
  ·by_cases h2:a = i
   ·subst h2;simp
   ·simp [h1,h2];omega
 ·rw [if_neg hmj] at hj
  have:=h.num j L' hj a
  rw [this,ht]
  by_cases h1:a < i
  ·simp [h1]
  ·by_cases h2:a = i
   ·subst h2
    simp [List.count_append,List.count_cons,hmj]
   ·simp [h1,h2]
theorem FoOk.next {nodes:List Nd} {i k:Nat} {fo:List (List (Nat × Nat))} (h:FoOk nodes i k fo) (hk:k = (a22 nodes i).length):FoOk nodes (i + 1) 0 fo:=by
 refine ⟨h.len,fun j L hj a=>?_⟩
 rw [h.num j L hj a]
 subst hk
 rw [List.take_length]
 by_cases h1:a < i
 ·simp [h1,show a < i + 1 by omega]
 ·by_cases h2:a = i
  ·subst h2;simp
  ·simp [h1,h2,show ¬ a < i + 1 by omega]
theorem a1l {nodes:List Nd} {i:Nat} {x:Nd} (h:nodes[i]? = some x):a22 nodes i = x.ins:=by simp [a22,h]
theorem c8d (n:Nat):∀ (L:List (Nat × Nat)),(∀ l ∈ L,l.1 < n) → L.length = ((List.range n).map fun a=>cnt L a).sum
 | [],_=>by
  have:∀ l:List Nat,(l.map fun a=>cnt [] a).sum = 0:=by intro l;induction l with|nil=>rfl|cons a l ih=>rw [List.map_cons,List.sum_cons,ih];rfl
  rw [this];rfl
 | x :: L,h=>by
  have ih:=c8d n L (fun l hl=>h l (by simp [hl]))
  have hx:=h x (by simp)
  have e:∀ a,cnt (x :: L) a = cnt L a + if x.1 = a then 1 else 0:=fun a=>by
   unfold cnt;rw [List.map_cons,List.count_cons];simp [beq_iff_eq]
  have s:∀ (l:List Nat),l.Nodup → (l.map fun a=>cnt (x :: L) a).sum = (l.map fun a=>cnt L a).sum + if x.1 ∈ l then 1 else 0:=by
   intro l
   induction l with
   | nil=>intro _;rfl
   | cons a l ih2=>
    intro hn
    rw [List.nodup_cons] at hn
    simp only [List.map_cons,List.sum_cons,e a,ih2 hn.2,List.mem_cons]
    by_cases h1:x.1 = a
    ·subst h1;simp [hn.1];omega
    ·simp [h1];omega
  rw [s _ List.nodup_range,if_pos (by simpa using hx),List.length_cons,ih]
theorem FoOk.node {nodes:List Nd} {i k j:Nat} {fo:List (List (Nat × Nat))} {L:List (Nat × Nat)} (h:FoOk nodes i k fo) (hL:fo[j]? = some L) (hi:i ≤ nodes.length):∀ l ∈ L,l.1 < nodes.length:=by
 intro l hl
 have hc:=h.num j L hL l.1
 have hp:0 < cnt L l.1:=by unfold cnt;exact List.count_pos_iff.2 (List.mem_map.2 ⟨l,hl,rfl⟩)
 by_cases h1:l.1 < i
 ·omega
 ·rw [if_neg h1] at hc
  by_cases h2:l.1 = i
  ·rw [if_pos h2] at hc
   cases hx:nodes[i]? with
   | none=>simp [a22,hx] at hc;omega
   | some x=>have:=(List.getElem?_eq_some_iff.1 hx).1;omega
  ·rw [if_neg h2] at hc;omega
theorem FoOk.total {nodes:List Nd} {i k j:Nat} {fo:List (List (Nat × Nat))} {L:List (Nat × Nat)} (h:FoOk nodes i k fo) (hL:fo[j]? = some L) (hn:nodes.length ≤ 14) (hx:∀ y ∈ nodes,y.ins.length ≤ 16) (hi:i ≤ nodes.length:=by omega):L.length ≤ 224:=by
 have hb:∀ a,cnt L a ≤ 16:=by
  intro a
  have hins:(a22 nodes a).length ≤ 16:=by
   unfold a22
   cases hx':nodes[a]? with
   | none=>simp
   | some x=>exact hx x (List.mem_of_getElem? hx')
  rw [h.num j L hL a]
  split
  ·exact Nat.le_trans List.count_le_length hins
  split
  ·rename_i e;subst e
   refine Nat.le_trans List.count_le_length ?_
   rw [List.length_take];omega
  ·omega
 rw [c8d nodes.length L (h.node hL hi)]
 have s:∀ l:List Nat,(l.map fun a=>cnt L a).sum ≤ 16 * l.length:=by
  intro l
  induction l with
  | nil=>simp
  | cons a l ih=>have:=hb a;simp only [List.map_cons,List.sum_cons,List.length_cons];omega
 have:=s (List.range nodes.length)
 rw [List.length_range] at this
 omega
theorem Cir.wf.insl {c:Cir} (h:c.wf) {x:Nd} (hx:x ∈ c.nodes):x.ins.length ≤ 16:=by
 have k14:=h.kind x hx
 have hhi:=h.hi x hx
 have:a1n x.kind ≤ 16:=by
  have hk:x.kind = 0 ∨ x.kind = 1 ∨ x.kind = 2 ∨ x.kind = 3 ∨ x.kind = 4 ∨ x.kind = 5 ∨ x.kind = 6 ∨ x.kind = 7 ∨ x.kind = 8 ∨ x.kind = 9 ∨ x.kind = 10 ∨ x.kind = 11 ∨ x.kind = 12 ∨ x.kind = 13 ∨ x.kind = 14:=by omega
  rcases hk with e|e|e|e|e|e|e|e|e|e|e|e|e|e|e<;>rw [e]<;>decide
 omega
end Go.Pc
/- PcKahn: the order in which nodes become ready. Plain. -/
namespace Go.Pc
open Go.Ax
def b81 (nodes:List Nd) (ready:List Nat) (done a:Nat):Nat:=((a22 nodes a).filter fun m=>decide (m ∉ ready.take done)).length
structure Kahn (nodes:List Nd) (left ready:List Nat) (done:Nat) (L:List (Nat × Nat)):Prop where
 ll:left.length = nodes.length
 rn:∀ r ∈ ready,r < nodes.length
 nd:ready.Nodup
 dle:done ≤ ready.length
 eq:∀ a,a < nodes.length → a1s (a0q nodes a) = true → left.getD a 0 + cnt L a = b81 nodes ready done a
 nc:∀ a,a < nodes.length → a1s (a0q nodes a) = false → left.getD a 0 = 0
 zero:∀ a,a < nodes.length → (a ∈ ready ↔ left.getD a 0 = 0)
def b0t (nodes:List Nd) (a:Nat):Nat:=if a1s (a0q nodes a) then (a22 nodes a).length else 0
def a3d (nodes:List Nd) (i:Nat):List Nat:=(List.range nodes.length).map fun j=>if j < i then b0t nodes j else 0
def a3r (nodes:List Nd) (i:Nat):List Nat:=(List.range i).filter fun j=>decide (b0t nodes j = 0)
theorem b8j (nodes:List Nd) (i:Nat):a3r nodes (i + 1) = if b0t nodes i = 0 then a3r nodes i ++ [i] else a3r nodes i:=by
 unfold a3r
 rw [List.range_succ,List.filter_append]
 by_cases h:b0t nodes i = 0<;>simp [h]
theorem c4c (nodes:List Nd) (i:Nat):(a3r nodes i).length ≤ i:=Nat.le_trans (List.length_filter_le _ _) (by simp)
theorem c1f (nodes:List Nd):a3d nodes 0 = List.replicate nodes.length 0:=by
 apply List.ext_getElem?
 intro j
 simp only [a3d,List.getElem?_map,List.getElem?_replicate,Nat.not_lt_zero,if_false]
 by_cases h:j < nodes.length
 ·rw [List.getElem?_range h];simp [h]
 ·rw [List.getElem?_eq_none (by simpa using h)];simp [h]
theorem a5q {nodes:List Nd} {i j:Nat} (h:j < nodes.length):(a3d nodes i)[j]? = some (if j < i then b0t nodes j else 0):=by
 simp [a3d,List.getElem?_range h]
theorem b3c {nodes:List Nd} {i:Nat} (h:i < nodes.length):(a3d nodes i).set i (b0t nodes i) = a3d nodes (i + 1):=by
 apply List.ext_getElem?
 intro j
 rw [List.getElem?_set]
 by_cases hj:j < nodes.length
 ·rw [a5q hj,a5q hj]
  by_cases hij:i = j
  ·subst hij;simp [a3d,h]
  ·by_cases h2:j < i
   ·simp [hij,h2,show j < i + 1 by omega]
   ·simp [hij,h2,show ¬ j < i + 1 by omega]
 ·have e:∀ i,(a3d nodes i)[j]? = none:=fun i=>List.getElem?_eq_none (by simp [a3d];omega)
  rw [e,e]
  have:i ≠ j:=by omega
  simp [this]
theorem c1g {nodes:List Nd} {i:Nat} (h:i < nodes.length) (h0:b0t nodes i = 0):a3d nodes i = a3d nodes (i + 1):=by
 rw [← b3c h]
 apply List.ext_getElem?
 intro j
 rw [List.getElem?_set]
 by_cases hij:i = j
 ·subst hij;rw [a5q h];simp [a3d,h,h0]
 ·simp [hij]
theorem Kahn.start (nodes:List Nd):Kahn nodes (a3d nodes nodes.length) (a3r nodes nodes.length) 0 []:=by
 have hg:∀ a,a < nodes.length → (a3d nodes nodes.length).getD a 0 = b0t nodes a:=by
  intro a ha
  rw [List.getD,a5q ha];simp [ha]
 refine ⟨by simp [a3d],?_,?_,Nat.zero_le _,?_,?_,?_⟩
 ·intro r hr
  unfold a3r at hr
  rw [List.mem_filter] at hr
  simpa using hr.1
 ·exact List.nodup_range.filter _
 ·intro a ha hc
  rw [hg a ha]
  have e:∀ l:List Nat,(l.filter fun m=>decide (m ∉ ([]:List Nat))) = l:=fun l=>List.filter_eq_self.2 (fun m _=>by simp)
  simp only [b0t,hc,if_true,b81,cnt,List.map_nil,List.count_nil,List.take_zero,Nat.add_zero]
  exact (congrArg List.length (e _)).symm
 ·intro a ha hc
  rw [hg a ha];simp [b0t,hc]
 ·intro a ha
  rw [hg a ha]
  unfold a3r
  rw [List.mem_filter]
  simp [ha]
section
variable {nodes:List Nd} {left ready:List Nat} {done:Nat} {L:List (Nat × Nat)}
theorem b7m (L:List (Nat × Nat)) (a p b:Nat):cnt (L ++ [(a,p)]) b = cnt L b + if a = b then 1 else 0:=by
 unfold cnt
 rw [List.map_append,List.count_append]
 by_cases hia:a = b
 ·subst hia;simp
 ·simp [hia,List.count_cons]
theorem Kahn.skip (h:Kahn nodes left ready done L) {a p:Nat} (hc:a1s (a0q nodes a) = false):Kahn nodes left ready done (L ++ [(a,p)]):=by
 refine ⟨h.ll,h.rn,h.nd,h.dle,?_,h.nc,h.zero⟩
 intro b hb hcb
 have:a ≠ b:=fun e=>by subst e;rw [hc] at hcb;cases hcb
 rw [b7m,if_neg this,Nat.add_zero]
 exact h.eq b hb hcb
theorem d2a {ready:List Nat} {done x a:Nat} (h:done ≤ ready.length):b81 nodes (ready ++ [x]) done a = b81 nodes ready done a:=by
 unfold b81;rw [List.take_append_of_le_length h]
theorem Kahn.pos (h:Kahn nodes left ready done L) {a p:Nat} (ha:a < nodes.length) (hc:a1s (a0q nodes a) = true) (hcnt:cnt (L ++ [(a,p)]) a ≤ b81 nodes ready done a):0 < left.getD a 0:=by
 have:=h.eq a ha hc
 rw [b7m,if_pos rfl] at hcnt
 omega
theorem Kahn.dec (h:Kahn nodes left ready done L) {a p:Nat} (ha:a < nodes.length) (hc:a1s (a0q nodes a) = true) (hcnt:cnt (L ++ [(a,p)]) a ≤ b81 nodes ready done a) :
 Kahn nodes (left.set a (left.getD a 0 - 1)) (if left.getD a 0 - 1 = 0 then ready ++ [a] else ready) done (L ++ [(a,p)]):=by
 have hpos:=h.pos ha hc hcnt
 have hal:a < left.length:=by rw [h.ll];exact ha
 have hget:∀ b,(left.set a (left.getD a 0 - 1)).getD b 0 = if a = b then left.getD a 0 - 1 else left.getD b 0:=by
  intro b
  simp only [List.getD_eq_getElem?_getD,List.getElem?_set]
  by_cases hab:a = b
  ·subst hab;simp [hal]
  ·simp [hab]
 have hna:a ∉ ready:=fun hm=>by have:=(h.zero a ha).1 hm;omega
 have hpe:∀ b,b81 nodes (if left.getD a 0 - 1 = 0 then ready ++ [a] else ready) done b = b81 nodes ready done b:=by
  intro b;split
  ·exact d2a h.dle
  ·rfl
 refine ⟨by rw [List.length_set,h.ll],?_,?_,?_,?_,?_,?_⟩
 ·intro r hr
  split at hr
  ·simp only [List.mem_append,List.mem_singleton] at hr
   rcases hr with hr|rfl
   ·exact h.rn r hr
   ·exact ha
  ·exact h.rn r hr
 ·split
  ·rw [List.nodup_append]
   refine ⟨h.nd,by simp,?_⟩
   intro x hx y hy
   simp only [List.mem_singleton] at hy
   subst hy
   exact fun e=>hna (e ▸ hx)
  ·exact h.nd
 ·split
  ·have:=h.dle;simp;omega
  ·exact h.dle
 ·intro b hb hcb
  rw [hget,hpe,b7m]
  have:=h.eq b hb hcb
  by_cases hab:a = b
  ·subst hab;rw [if_pos rfl,if_pos rfl];omega
  ·rw [if_neg hab,if_neg hab,Nat.add_zero];exact this
 ·intro b hb hcb
  have:a ≠ b:=fun e=>by subst e;rw [hc] at hcb;cases hcb
  rw [hget,if_neg this]
  exact h.nc b hb hcb
 ·intro b hb
  rw [hget]
  by_cases hab:a = b
  ·subst hab
   rw [if_pos rfl]
   split
   ·rename_i e;exact ⟨fun _=>e,fun _=>by simp⟩
   ·rename_i e;exact ⟨fun hm=>absurd hm hna,fun e'=>absurd e' e⟩
  ·rw [if_neg hab]
   rw [← h.zero b hb]
   split
   ·simp [Ne.symm hab]
   ·rfl
theorem a6g (l:List Nat) (S:List Nat) (x:Nat) (hx:x ∉ S):(l.filter fun m=>decide (m ∉ S)).length = (l.filter fun m=>decide (m ∉ S ++ [x])).length + l.count x:=by
 induction l with
 | nil=>rfl
 | cons a l ih=>
  simp only [List.filter_cons,List.count_cons]
  by_cases hax:a = x
  ·subst hax
   simp [hx] at ih ⊢
   omega
  ·by_cases haS:a ∈ S
   ·simp [haS,hax] at ih ⊢;omega
   ·simp [haS,hax] at ih ⊢;omega
theorem Kahn.next (h:Kahn nodes left ready done L) {x:Nat} (hx:ready[done]? = some x) (hL:∀ a,a < nodes.length → cnt L a = (a22 nodes a).count x):Kahn nodes left ready (done + 1) []:=by
 have hdl:=(List.getElem?_eq_some_iff.1 hx).1
 have ht:=a0z hx
 have hnx:x ∉ ready.take done:=by
  intro hm
  obtain ⟨i,hi⟩:=List.mem_iff_getElem?.1 hm
  rw [List.getElem?_take] at hi
  split at hi
  case isFalse=>cases hi
  have:=(List.getElem?_inj (by omega) h.nd).1 (hi.trans hx.symm)
  omega
 refine ⟨h.ll,h.rn,h.nd,by omega,?_,h.nc,h.zero⟩
 intro a ha hc
 have:=h.eq a ha hc
 rw [hL a ha] at this
 unfold b81 at this ⊢
 rw [ht]
 rw [a6g _ _ x hnx] at this
 simp only [cnt,List.map_nil,List.count_nil]
 omega
theorem d82 {ready:List Nat} {done x a:Nat} (nd:ready.Nodup) (hx:ready[done]? = some x):(a22 nodes a).count x ≤ b81 nodes ready done a:=by
 have hdl:=(List.getElem?_eq_some_iff.1 hx).1
 have hnx:x ∉ ready.take done:=by
  intro hm
  obtain ⟨i,hi⟩:=List.mem_iff_getElem?.1 hm
  rw [List.getElem?_take] at hi
  split at hi
  case isFalse=>cases hi
  have:=(List.getElem?_inj (by omega) nd).1 (hi.trans hx.symm)
  omega
 unfold b81
 rw [a6g _ _ x hnx]
 omega
theorem Kahn.all (h:Kahn nodes left ready ready.length []) (hac:∀ (i:Nat) (x:Nd),nodes[i]? = some x → a1s x.kind = true → ∀ m ∈ x.ins,m < i):nodes.length ≤ ready.length:=by
 have key:∀ n a,a ≤ n → a < nodes.length → a ∈ ready:=by
  intro n
  induction n with
  | zero=>
   intro a han ha
   obtain rfl:a = 0:=by omega
   rw [h.zero 0 ha]
   cases hc:a1s (a0q nodes 0) with
   | false=>exact h.nc 0 ha hc
   | true=>
    obtain ⟨x,hx⟩:∃ x,nodes[0]? = some x:=⟨_,List.getElem?_eq_getElem ha⟩
    have he:=h.eq 0 ha hc
    have hk:a0q nodes 0 = x.kind:=by simp [a0q,hx]
    rw [hk] at hc
    have hi:a22 nodes 0 = []:=by
     simp only [a22,hx,Option.map_some,Option.getD_some]
     cases hins:x.ins with
     | nil=>rfl
     | cons m r=>have:=hac 0 x hx hc m (by simp [hins]);omega
    have:b81 nodes ready ready.length 0 = 0:=by simp [b81,hi]
    omega
  | succ n ih=>
   intro a han ha
   rw [h.zero a ha]
   cases hc:a1s (a0q nodes a) with
   | false=>exact h.nc a ha hc
   | true=>
    obtain ⟨x,hx⟩:∃ x,nodes[a]? = some x:=⟨_,List.getElem?_eq_getElem ha⟩
    have he:=h.eq a ha hc
    have hk:a0q nodes a = x.kind:=by simp [a0q,hx]
    rw [hk] at hc
    have hi:a22 nodes a = x.ins:=a1l hx
    have:b81 nodes ready ready.length a = 0:=by
     unfold b81
     rw [hi,List.take_length,List.length_eq_zero_iff,List.filter_eq_nil_iff]
     intro m hm
     have h1:=hac a x hx hc m hm
     have h2:=ih m (by omega) (by omega)
     simp [h2]
    omega
 have:=b3b (l:=List.range nodes.length) (T:=ready) List.nodup_range (fun a ha=>key a a (Nat.le_refl _) (by simpa using ha))
 simpa using this
theorem Kahn.bound (h:Kahn nodes left ready done L):ready.length ≤ nodes.length:=by
 have:=b3b h.nd (T:=List.range nodes.length) (fun a ha=>by simpa using h.rn a ha)
 simpa using this
end
end Go.Pc
/- PcPerm: exchanging neighbours. Plain. -/
namespace Go.Pc
theorem c6c {l:List Nat} {j x y:Nat} (hj:l[j + 1]? = some x) (hi:l[j]? = some y):((l.set (j + 1) y).set j x).Perm l:=by
 induction l generalizing j with
 | nil=>simp at hj
 | cons a l ih=>
  cases j with
  | zero=>
   cases l with
   | nil=>simp at hj
   | cons b l=>
    simp only [List.getElem?_cons_succ,List.getElem?_cons_zero,Option.some.injEq] at hj hi
    subst hj;subst hi
    exact List.Perm.swap ..
  | succ j=>
   simp only [List.getElem?_cons_succ] at hj hi
   simp only [List.set_cons_succ]
   exact (ih hj hi).cons a
def d65 (a b:Nat):Int:=if a < b then -1 else if b < a then 1 else 0
end Go.Pc
/- PcReach: which nets a net depends on; faults that are valid. Plain. -/
namespace Go.Pc
open Go.Ax
inductive DepOn (nodes:List Nd):Nat → Nat → Prop
 | refl (a:Nat):DepOn nodes a a
 | step {a m b:Nat} (hk:a0q nodes a ≠ 14) (hm:m ∈ a22 nodes a) (h:DepOn nodes m b):DepOn nodes a b
theorem DepOn.cases {nodes:List Nd} {a b:Nat} (h:DepOn nodes a b):a = b ∨ (a0q nodes a ≠ 14 ∧ ∃ m,m ∈ a22 nodes a ∧ DepOn nodes m b):=by
 cases h with
 | refl=>exact .inl rfl
 | step hk hm h=>exact .inr ⟨hk,_,hm,h⟩
theorem DepOn.not_dff {nodes:List Nd} {a b:Nat} (hab:a ≠ b) (hk:a0q nodes a = 14):¬ DepOn nodes a b:=fun h=>by
 rcases h.cases with e|⟨h1,_⟩
 ·exact hab e
 ·exact h1 hk
theorem DepOn.snoc {nodes:List Nd} {a b m:Nat} (h:DepOn nodes a b) (hk:a0q nodes b ≠ 14) (hm:m ∈ a22 nodes b):DepOn nodes a m:=by
 induction h with
 | refl a=>exact .step hk hm (.refl _)
 | step hk' hm' _ ih=>exact .step hk' hm' (ih hk hm)
theorem Cir.wf.comb_of {c:Cir} (h:c.wf) {x:Nd} (hx:x ∈ c.nodes) (hp:0 < x.ins.length) (h14:x.kind ≠ 14):a1s x.kind = true:=by
 have h1:=h.kind x hx
 have h2:=h.hi x hx
 have h3:x.kind ≠ 0:=by
  intro e;rw [e] at h2
  have:a1n 0 = 0:=rfl
  omega
 simp [a1s];omega
structure FltOk (nodes:List Nd) (f:Flt):Prop where
 model:f.model = 0 ∨ f.model = 2 ∨ f.model = 3
 node:f.node < nodes.length
 pin:-1 ≤ f.pin ∧ f.pin < (a22 nodes f.node).length
 value:f.value ≤ 1
 other:f.other < nodes.length
 stuck:f.model = 0 → f.other = 0
 bridge:f.model ≠ 0 → f.pin = -1 ∧ f.node ≠ f.other ∧ (f.model = 2 → f.node ≤ f.other) ∧ (f.model = 3 → f.value = 0) ∧ a0q nodes f.node ≠ 12 ∧ a0q nodes f.other ≠ 12 ∧ ¬ DepOn nodes f.node f.other ∧ ¬ DepOn nodes f.other f.node
end Go.Pc
/- PcRun: the simulation, step by step. Plain. -/
namespace Go.Pc
open Go.Ax
section
variable {α:Type} {A:Alg α} {nodes:List Nd} {h:Hk α}
theorem c7g {n:Nat} {nets:List α}:∀ {l:List Nat} {p i m:Nat},l[i]? = some m → (a33 A h n nets p l)[i]? = some (h.pin n (p + i) (nets.getD m A.z))
 | [],p,i,m,hm=>by simp at hm
 | a :: l,p,0,m,hm=>by simp at hm;subst hm;rfl
 | a :: l,p,i + 1,m,hm=>by
  simp only [List.getElem?_cons_succ] at hm
  simp only [a33,List.getElem?_cons_succ,c7g (p:=p + 1) hm]
  rw [show p + 1 + i = p + (i + 1) by omega]
theorem c7f {n:Nat} {nets:List α}:∀ (l:List Nat) (p:Nat),(a33 A h n nets p l).length = l.length
 | [],_=>rfl
 | a :: l,p=>by simp [a33,c7f l]
theorem a3t {nets:List α} {n:Nat}:(a0p A nodes h nets n).length = (a22 nodes n).length:=c7f _ _
theorem b10 {nets:List α} {n i m:Nat} {v:α} (hm:(a22 nodes n)[i]? = some m) (hv:nets[m]? = some v):(a0p A nodes h nets n).take (i + 1) = (a0p A nodes h nets n).take i ++ [h.pin n i v]:=by
 have:=c7g (A:=A) (h:=h) (n:=n) (nets:=nets) (p:=0) hm
 rw [Nat.zero_add,List.getD,hv] at this
 exact a0z this
theorem b5i:∀ {is:List Nat} {vs:List α} {nets:List α} {a:Nat} {v:α},is.length = vs.length → a1i nets (is ++ [a]) (vs ++ [v]) = (a1i nets is vs).set a v
 | [],[],nets,a,v,_=>rfl
 | [],_ :: _,_,_,_,h=>by simp at h
 | _ :: _,[],_,_,_,h=>by simp at h
 | i :: is,w :: vs,nets,a,v,h=>by simp only [List.cons_append,a1i];exact b5i (by simpa using h)
theorem a2c:∀ (is:List Nat) (vs:List α) (nets:List α),(a1i nets is vs).length = nets.length
 | [],vs,nets=>by cases vs<;>rfl
 | i :: is,[],nets=>rfl
 | i :: is,v :: vs,nets=>by simp [a1i,a2c is vs]
theorem a5p {is:List Nat} {vs nets:List α} {i a:Nat} {v:α} (h1:is[i]? = some a) (h2:vs[i]? = some v):a1i nets (is.take (i + 1)) (vs.take (i + 1)) = (a1i nets (is.take i) (vs.take i)).set a v:=by
 rw [a0z h1,a0z h2]
 have l1:=(List.getElem?_eq_some_iff.1 h1).1
 have l2:=(List.getElem?_eq_some_iff.1 h2).1
 exact b5i (by rw [List.length_take,List.length_take];omega)
theorem b89 (nets:List α) (n:Nat):(stepG A nodes h nets n).length = nets.length:=by unfold stepG;simp
theorem a8w (l:List Nat) (nets:List α):(l.foldl (stepG A nodes h) nets).length = nets.length:=by
 induction l generalizing nets with
 | nil=>rfl
 | cons a l ih=>rw [List.foldl_cons,ih,b89]
theorem b01 (ord ins sts:List Nat) (vi vs:List α):(b1x A nodes h ord ins sts vi vs).length = nodes.length:=by
 unfold b1x;rw [a8w,a2c,a2c];simp
theorem b3q {l:List Nat} {nets:List α} {i n:Nat} (hn:l[i]? = some n):(l.take (i + 1)).foldl (stepG A nodes h) nets = stepG A nodes h ((l.take i).foldl (stepG A nodes h) nets) n:=by
 rw [a0z hn,List.foldl_append];rfl
end
end Go.Pc
/- PcLev: levels of nodes; orders in which a3y node stands behind what it c12. Plain. -/
namespace Go.Pc
open Go.Ax
structure Lev (nodes:List Nd) (lv ready:List Nat) (done:Nat) (L:List (Nat × Nat)):Prop where
 old:∀ a,a < nodes.length → a1s (a0q nodes a) = true → ∀ m ∈ a22 nodes a,m ∈ ready.take done → lv.getD m 0 < lv.getD a 0
 now:∀ l ∈ L,a1s (a0q nodes l.1) = true → ∀ x,ready[done]? = some x → lv.getD x 0 < lv.getD l.1 0
theorem Lev.start (nodes:List Nd) (lv ready:List Nat):Lev nodes lv ready 0 []:=⟨fun a _ _ m _ hm=>by simp at hm,fun l hl=>by simp at hl⟩
section
variable {nodes:List Nd} {lv left ready:List Nat} {done:Nat} {L:List (Nat × Nat)}
theorem Lev.skip (h:Lev nodes lv ready done L) {a p:Nat} (hc:a1s (a0q nodes a) = false):Lev nodes lv ready done (L ++ [(a,p)]):=by
 refine ⟨h.old,fun l hl hcl=>?_⟩
 rcases List.mem_append.1 hl with hl|hl
 ·exact h.now l hl hcl
 ·rw [List.mem_singleton.1 hl] at hcl;rw [hc] at hcl;cases hcl
theorem b2d (lv:List Nat) (a v b:Nat) (ha:a < lv.length):(lv.set a v).getD b 0 = if a = b then v else lv.getD b 0:=by
 simp only [List.getD_eq_getElem?_getD,List.getElem?_set]
 by_cases hab:a = b
 ·subst hab;simp [ha]
 ·simp [hab]
theorem Lev.dec (h:Lev nodes lv ready done L) {a p x va vx:Nat} (hx:ready[done]? = some x) (hna:a ∉ ready) (hva:lv[a]? = some va) (hvx:lv[x]? = some vx) {ready':List Nat} (hr:ready' = ready ∨ ready' = ready ++ [a]) :
 Lev nodes (lv.set a (max va (vx + 1))) ready' done (L ++ [(a,p)]):=by
 have hal:=(List.getElem?_eq_some_iff.1 hva).1
 have hdl:=(List.getElem?_eq_some_iff.1 hx).1
 have hxr:x ∈ ready:=List.mem_of_getElem? hx
 have hax:a ≠ x:=fun e=>hna (e ▸ hxr)
 have ea:lv.getD a 0 = va:=by rw [List.getD,hva];rfl
 have ex:lv.getD x 0 = vx:=by rw [List.getD,hvx];rfl
 have ht:ready'.take done = ready.take done:=by
  rcases hr with rfl|rfl
  ·rfl
  ·exact List.take_append_of_le_length (by omega)
 have hx':ready'[done]? = some x:=by
  rcases hr with rfl|rfl
  ·exact hx
  ·rw [List.getElem?_append_left hdl];exact hx
 have up:∀ b,lv.getD b 0 ≤ (lv.set a (max va (vx + 1))).getD b 0:=by
  intro b;rw [b2d _ _ _ _ hal];split
  ·rename_i e;subst e;rw [ea];exact Nat.le_max_left _ _
  ·exact Nat.le_refl _
 refine ⟨?_,?_⟩
 ·intro b hb hcb m hm hmr
  rw [ht] at hmr
  have hma:a ≠ m:=fun e=>hna (e ▸ List.mem_of_mem_take hmr)
  rw [b2d _ _ _ m hal,if_neg hma]
  exact Nat.lt_of_lt_of_le (h.old b hb hcb m hm hmr) (up b)
 ·intro l hl hcl y hy
  rw [hx'] at hy;cases hy
  rw [b2d _ _ _ x hal,if_neg hax]
  rcases List.mem_append.1 hl with hl|hl
  ·exact Nat.lt_of_lt_of_le (h.now l hl hcl x hx) (up _)
  ·rw [List.mem_singleton.1 hl,b2d _ _ _ _ hal,if_pos rfl,ex]
   exact Nat.lt_of_lt_of_le (Nat.lt_succ_self _) (Nat.le_max_right _ _)
theorem Lev.next (h:Lev nodes lv ready done L) {x:Nat} (hx:ready[done]? = some x) (hL:∀ a,a < nodes.length → cnt L a = (a22 nodes a).count x):Lev nodes lv ready (done + 1) []:=by
 refine ⟨?_,fun l hl=>by simp at hl⟩
 intro a ha hc m hm hmr
 rw [a0z hx] at hmr
 rcases List.mem_append.1 hmr with hmr|hmr
 ·exact h.old a ha hc m hm hmr
 ·rw [List.mem_singleton.1 hmr] at hm ⊢
  have h1:=hL a ha
  have h2:0 < (a22 nodes a).count x:=List.count_pos_iff.2 hm
  rw [← h1] at h2
  unfold Pc.cnt at h2
  obtain ⟨l,hl,rfl⟩:=List.mem_map.1 (List.count_pos_iff.1 h2)
  exact h.now l hl hc x hx
def Rises (nodes:List Nd) (lv:List Nat):Prop:=∀ a,a < nodes.length → a1s (a0q nodes a) = true → ∀ m ∈ a22 nodes a,m < nodes.length → lv.getD m 0 < lv.getD a 0
theorem Lev.all (h:Lev nodes lv ready ready.length []) (hk:Kahn nodes left ready ready.length []) (hall:nodes.length ≤ ready.length):Rises nodes lv:=by
 intro a ha hc m hm hmn
 refine h.old a ha hc m hm ?_
 rw [List.take_length]
 by_cases hmr:m ∈ ready
 ·exact hmr
 ·have hs:=b3b (l:=m :: ready) (T:=List.range nodes.length) (List.nodup_cons.2 ⟨hmr,hk.nd⟩) (fun b hb=>by
   rcases List.mem_cons.1 hb with rfl|hb
   ·simpa using hmn
   ·simpa using hk.rn b hb)
  simp at hs;omega
end
def e1z (nodes:List Nd) (ord:List Nat):Prop:=∀ (i n:Nat),ord[i]? = some n → a1s (a0q nodes n) = true → ∀ m ∈ a22 nodes n,m ∈ ord.take i
theorem Rises.topo {nodes:List Nd} {lv ord:List Nat} (h:Rises nodes lv) (hp:ord.Perm (List.range nodes.length)) (hs:ord.Pairwise fun x y=>lv.getD x 0 ≤ lv.getD y 0) (hin:∀ n,n < nodes.length → ∀ m ∈ a22 nodes n,m < nodes.length):e1z nodes ord:=by
 intro i n hi hc m hm
 have hn:n < nodes.length:=by have:=hp.mem_iff.1 (List.mem_of_getElem? hi);simpa using this
 have hmn:=hin n hn m hm
 obtain ⟨j,hj⟩:=List.mem_iff_getElem?.1 (hp.mem_iff.2 (List.mem_range.2 hmn))
 have hlt:=h n hn hc m hm hmn
 have hil:=(List.getElem?_eq_some_iff.1 hi).1
 have hjl:=(List.getElem?_eq_some_iff.1 hj).1
 by_cases hji:j < i
 ·exact List.mem_iff_getElem?.2 ⟨j,by rw [List.getElem?_take,if_pos hji];exact hj⟩
 ·exfalso
  by_cases hij:i = j
  ·subst hij;rw [hi] at hj;cases hj;omega
  ·have:=List.pairwise_iff_getElem.1 hs i j hil hjl (by omega)
   rw [(List.getElem?_eq_some_iff.1 hi).2,(List.getElem?_eq_some_iff.1 hj).2] at this
   omega
theorem Cir.wf.inAt {c:Cir} (h:c.wf):∀ n,n < c.nodes.length → ∀ m ∈ a22 c.nodes n,m < c.nodes.length:=by
 intro n hn m hm
 obtain ⟨x,hx⟩:∃ x,c.nodes[n]? = some x:=⟨_,List.getElem?_eq_getElem hn⟩
 rw [a1l hx] at hm
 exact h.ins x (List.mem_of_getElem? hx) m hm
/-! ### insertion -/
def SortJ (key:Nat → Nat) (d:List Nat) (i j:Nat):Prop:=∀ p q x y,p < q → q ≤ i → q ≠ j → d[p]? = some x → d[q]? = some y → key x ≤ key y
def SortI (key:Nat → Nat) (d:List Nat) (i:Nat):Prop:=∀ p q x y,p < q → q < i → d[p]? = some x → d[q]? = some y → key x ≤ key y
theorem SortI.start {key:Nat → Nat} {d:List Nat} {i:Nat} (h:SortI key d i):SortJ key d i i:=fun p q x y h1 h2 h3=>h p q x y h1 (by omega)
theorem SortI.one {key:Nat → Nat} {d:List Nat}:SortI key d 1:=fun p q x y h1 h2=>by omega
theorem SortJ.stop {key:Nat → Nat} {d:List Nat} {i j:Nat} (h:SortJ key d i j) (hj:j = 0 ∨ ∃ x y,d[j - 1]? = some x ∧ d[j]? = some y ∧ key x ≤ key y):SortI key d (i + 1):=by
 intro p q x y h1 h2 hx hy
 by_cases hq:q = j
 ·subst hq
  rcases hj with rfl|⟨x',y',h3,h4,h5⟩
  ·omega
  ·rw [hy] at h4;cases h4
   by_cases hp:p = q - 1
   ·subst hp;rw [hx] at h3;cases h3;exact h5
   ·exact Nat.le_trans (h p (q - 1) x x' (by omega) (by omega) (by omega) hx h3) h5
 ·exact h p q x y h1 (by omega) hq hx hy
theorem SortJ.swap {key:Nat → Nat} {d:List Nat} {i j:Nat} (h:SortJ key d i (j + 1)) (hji:j + 1 ≤ i) {x y:Nat} (hx:d[j]? = some x) (hy:d[j + 1]? = some y) (hlt:key y < key x):SortJ key ((d.set (j + 1) x).set j y) i j:=by
 have hjl:=(List.getElem?_eq_some_iff.1 hy).1
 have hg:∀ p,((d.set (j + 1) x).set j y)[p]? = if p = j then some y else if p = j + 1 then some x else d[p]?:=by
  intro p
  rw [List.getElem?_set,List.getElem?_set]
  simp only [List.length_set]
  by_cases h1:j = p
  ·subst h1;simp;omega
  ·by_cases h2:j + 1 = p
   ·subst h2;simp;omega
   ·simp [h1,h2,Ne.symm h1,Ne.symm h2]
 intro p q u v h1 h2 h3 hu hv
 rw [hg] at hu hv
 rw [if_neg h3] at hv
 by_cases hq:q = j + 1
 ·rw [if_pos hq] at hv;cases hv
  by_cases hp:p = j
  ·rw [if_pos hp] at hu;cases hu;omega
  ·rw [if_neg hp,if_neg (by omega)] at hu
   exact h p j u x (by omega) (by omega) (by omega) hu hx
 ·rw [if_neg hq] at hv
  by_cases hp:p = j
  ·rw [if_pos hp] at hu;cases hu
   exact h (j + 1) q y v (by omega) h2 (by omega) hy hv
  ·rw [if_neg hp] at hu
   by_cases hp2:p = j + 1
   ·rw [if_pos hp2] at hu;cases hu
    exact h j q x v (by omega) h2 (by omega) hx hv
   ·rw [if_neg hp2] at hu
    exact h p q u v h1 h2 (by omega) hu hv
theorem SortI.pairwise {key:Nat → Nat} {d:List Nat} (h:SortI key d d.length):d.Pairwise fun x y=>key x ≤ key y:=by
 rw [List.pairwise_iff_getElem]
 intro i j hi hj hij
 exact h i j _ _ hij hj (List.getElem?_eq_getElem hi) (List.getElem?_eq_getElem hj)
end Go.Pc
/- PcLog: gates over the values 0, 1, X and Z; they are the gates over pairs of bits. Plain. -/
namespace Go.Pc
open Go.Ax
def a4s (v:Nat):Nat:=min v 2
def b29 (v:Nat):Nat:=if v ≤ 1 then 1 - v else 2
def a6n (low high:Nat):Nat → List Nat → Nat
 | out,[]=>out
 | out,v :: r=>if v = low then low else a6n low high (if v = high then out else 2) r
def b4x:Nat → List Nat → Nat
 | out,[]=>out
 | out,v :: r=>if v ≤ 1 then b4x (out ^^^ v) r else 2
def b8t (s a b:Nat):Nat:=if s = 0 then a4s a else if s = 1 then a4s b else if a = b then a4s a else 2
def c1a (e d:Nat):Nat:=if e = 0 then 3 else if e = 1 then a4s d else 2
def d5u (l:List Nat):Nat:=match l.findIdx? (fun v=>decide (v ≠ 3)) with
 | none=>3
 | some i=>if (decide (0 ∈ l) && decide (1 ∈ l)) || l.any (fun v=>decide (a26 v = 2)) then 2 else l.getD i 0
def a47 (k:Nat) (l:List Nat):Nat:=match k with
 | 1=>0
 | 2=>1
 | 3=>a4s (l.getD 0 2)
 | 4=>b29 (l.getD 0 2)
 | 5=>a6n 0 1 1 l
 | 6=>b29 (a6n 0 1 1 l)
 | 7=>a6n 1 0 0 l
 | 8=>b29 (a6n 1 0 0 l)
 | 9=>b4x 0 l
 | 10=>b29 (b4x 0 l)
 | 11=>b8t (l.getD 0 2) (l.getD 1 2) (l.getD 2 2)
 | 12=>c1a (l.getD 0 2) (l.getD 1 2)
 | 13=>d5u l
 | _=>2
def a4f (k:Nat) (l:List Nat):Nat:=if l.length < a1m k ∨ a1n k < l.length then 2 else a47 k l
def vR (v:Nat):V2:=b69 (a0l v)
theorem c1o (P:Nat → Prop) (h0:P 0) (h1:P 1) (h2:P 2) (h3:P 3) {v:Nat} (hv:v ≤ 3):P v:=by
 have:v = 0 ∨ v = 1 ∨ v = 2 ∨ v = 3:=by omega
 rcases this with rfl|rfl|rfl|rfl<;>assumption
theorem c43 {v:Nat} (hv:v ≤ 3):a0l (a4s v) = b69 (a0l v) ∧ a4s v ≤ 3:=
 c1o (fun v=>a0l (a4s v) = b69 (a0l v) ∧ a4s v ≤ 3) (by decide) (by decide) (by decide) (by decide) hv
theorem c7r {v:Nat} (hv:v ≤ 3):a0l (b29 v) = c5z (b69 (a0l v)) ∧ b29 v ≤ 3:=
 c1o (fun v=>a0l (b29 v) = c5z (b69 (a0l v)) ∧ b29 v ≤ 3) (by decide) (by decide) (by decide) (by decide) hv
theorem b14 {v:Nat} (hv:v ≤ 2):a0l (b29 v) = c5z (a0l v) ∧ b29 v ≤ 3:=by
 have:v = 0 ∨ v = 1 ∨ v = 2:=by omega
 rcases this with rfl|rfl|rfl<;>decide
theorem d0j:∀ (l:List V2),l.foldl c0i (false,true) = (false,true)
 | []=>rfl
 | a :: l=>by rw [List.foldl_cons,show c0i (false,true) a = (false,true) by simp [c0i]];exact d0j l
theorem d5r:∀ (l:List V2),l.foldl vOr (true,false) = (true,false)
 | []=>rfl
 | a :: l=>by rw [List.foldl_cons,show vOr (true,false) a = (true,false) by simp [vOr]];exact d5r l
theorem c0f:∀ (l:List V2),l.foldl c0g (false,false) = (false,false)
 | []=>rfl
 | a :: l=>by rw [List.foldl_cons,show c0g (false,false) a = (false,false) by simp [c0g]];exact c0f l
theorem b0m:∀ (l:List Nat) (out:Nat),(out = 1 ∨ out = 2) → (∀ v ∈ l,v ≤ 3) → (l.map vR).foldl c0i (a0l out) = a0l (a6n 0 1 out l) ∧ a6n 0 1 out l ≤ 2
 | [],out,ho,_=>by rcases ho with rfl|rfl<;>decide
 | v :: l,out,ho,hv=>by
  have hl:=fun v h=>hv v (List.mem_cons_of_mem _ h)
  rw [List.map_cons,List.foldl_cons]
  refine c1o (fun v=>(l.map vR).foldl c0i (c0i (a0l out) (vR v)) = a0l (a6n 0 1 out (v :: l)) ∧ a6n 0 1 out (v :: l) ≤ 2) ?_ ?_ ?_ ?_ (hv v (List.mem_cons_self ..))
  ·have:c0i (a0l out) (vR 0) = (false,true):=by rcases ho with rfl|rfl<;>decide
   rw [this,d0j];simp only [a6n,if_true];decide
  ·have:c0i (a0l out) (vR 1) = a0l out:=by rcases ho with rfl|rfl<;>decide
   rw [this];simp only [a6n];exact b0m l out ho hl
  ·have:c0i (a0l out) (vR 2) = a0l 2:=by rcases ho with rfl|rfl<;>decide
   rw [this];simp only [a6n];exact b0m l 2 (.inr rfl) hl
  ·have:c0i (a0l out) (vR 3) = a0l 2:=by rcases ho with rfl|rfl<;>decide
   rw [this];simp only [a6n];exact b0m l 2 (.inr rfl) hl
theorem b2z:∀ (l:List Nat) (out:Nat),(out = 0 ∨ out = 2) → (∀ v ∈ l,v ≤ 3) → (l.map vR).foldl vOr (a0l out) = a0l (a6n 1 0 out l) ∧ a6n 1 0 out l ≤ 2
 | [],out,ho,_=>by rcases ho with rfl|rfl<;>decide
 | v :: l,out,ho,hv=>by
  have hl:=fun v h=>hv v (List.mem_cons_of_mem _ h)
  rw [List.map_cons,List.foldl_cons]
  refine c1o (fun v=>(l.map vR).foldl vOr (vOr (a0l out) (vR v)) = a0l (a6n 1 0 out (v :: l)) ∧ a6n 1 0 out (v :: l) ≤ 2) ?_ ?_ ?_ ?_ (hv v (List.mem_cons_self ..))
  ·have:vOr (a0l out) (vR 0) = a0l out:=by rcases ho with rfl|rfl<;>decide
   rw [this];simp only [a6n];exact b2z l out ho hl
  ·have:vOr (a0l out) (vR 1) = (true,false):=by rcases ho with rfl|rfl<;>decide
   rw [this,d5r];simp only [a6n,if_true];decide
  ·have:vOr (a0l out) (vR 2) = a0l 2:=by rcases ho with rfl|rfl<;>decide
   rw [this];simp only [a6n];exact b2z l 2 (.inr rfl) hl
  ·have:vOr (a0l out) (vR 3) = a0l 2:=by rcases ho with rfl|rfl<;>decide
   rw [this];simp only [a6n];exact b2z l 2 (.inr rfl) hl
theorem b20:∀ (l:List Nat) (out:Nat),(out = 0 ∨ out = 1) → (∀ v ∈ l,v ≤ 3) → (l.map vR).foldl c0g (a0l out) = a0l (b4x out l) ∧ b4x out l ≤ 2
 | [],out,ho,_=>by rcases ho with rfl|rfl<;>decide
 | v :: l,out,ho,hv=>by
  have hl:=fun v h=>hv v (List.mem_cons_of_mem _ h)
  rw [List.map_cons,List.foldl_cons]
  refine c1o (fun v=>(l.map vR).foldl c0g (c0g (a0l out) (vR v)) = a0l (b4x out (v :: l)) ∧ b4x out (v :: l) ≤ 2) ?_ ?_ ?_ ?_ (hv v (List.mem_cons_self ..))
  ·have:c0g (a0l out) (vR 0) = a0l out:=by rcases ho with rfl|rfl<;>decide
   rw [this];simp only [b4x,Nat.xor_zero];exact b20 l out ho hl
  ·have:c0g (a0l out) (vR 1) = a0l (out ^^^ 1):=by rcases ho with rfl|rfl<;>decide
   rw [this];simp only [b4x];exact b20 l (out ^^^ 1) (by rcases ho with rfl|rfl<;>decide) hl
  ·have:c0g (a0l out) (vR 2) = (false,false):=by rcases ho with rfl|rfl<;>decide
   rw [this,c0f];exact ⟨rfl,by show (2:Nat) ≤ 2;decide⟩
  ·have:c0g (a0l out) (vR 3) = (false,false):=by rcases ho with rfl|rfl<;>decide
   rw [this,c0f];exact ⟨rfl,by show (2:Nat) ≤ 2;decide⟩
theorem d2h {s a b:Nat} (hs:s ≤ 3) (ha:a ≤ 3) (hb:b ≤ 3):a0l (b8t s a b) = e0u (vR s) (vR a) (vR b) ∧ b8t s a b ≤ 3:=by
 have h:∀ s:Fin 4,∀ a:Fin 4,∀ b:Fin 4,a0l (b8t s a b) = e0u (vR s) (vR a) (vR b) ∧ b8t s a b ≤ 3:=by decide
 exact h ⟨s,by omega⟩ ⟨a,by omega⟩ ⟨b,by omega⟩
theorem d1d {e d:Nat} (he:e ≤ 3) (hd:d ≤ 3):a0l (c1a e d) = e0t (vR e) (vR d) ∧ c1a e d ≤ 3:=by
 have h:∀ e:Fin 4,∀ d:Fin 4,a0l (c1a e d) = e0t (vR e) (vR d) ∧ c1a e d ≤ 3:=by decide
 exact h ⟨e,by omega⟩ ⟨d,by omega⟩
theorem d67:∀ (l:List Nat) (s:Bool × Bool × Bool),(∀ v ∈ l,v ≤ 3) → (l.map a0l).foldl b68 s = (s.1 || decide (1 ∈ l),s.2.1 || decide (0 ∈ l),s.2.2 || decide (2 ∈ l))
 | [],s,_=>by simp
 | v :: l,s,hv=>by
  have hl:=fun v h=>hv v (List.mem_cons_of_mem _ h)
  rw [List.map_cons,List.foldl_cons,d67 l _ hl]
  obtain ⟨a,b,c⟩:=s
  refine c1o (fun v=>((b68 (a,b,c) (a0l v)).1 || decide (1 ∈ l),(b68 (a,b,c) (a0l v)).2.1 || decide (0 ∈ l),(b68 (a,b,c) (a0l v)).2.2 || decide (2 ∈ l)) = (a || decide (1 ∈ v :: l),b || decide (0 ∈ v :: l),c || decide (2 ∈ v :: l))) ?_ ?_ ?_ ?_ (hv v (List.mem_cons_self ..)) <;>
   simp [b68,a0l,a26,List.mem_cons]
theorem d4h (l:List Nat) (hv:∀ v ∈ l,v ≤ 3):a0l (d5u l) = e26 (l.map a0l) ∧ d5u l ≤ 3:=by
 have hx:l.any (fun v=>decide (a26 v = 2)) = decide (2 ∈ l):=by
  rw [Bool.eq_iff_iff,List.any_eq_true,decide_eq_true_eq]
  constructor
  ·rintro ⟨v,h,hc⟩
   have h3:=hv v h
   have:v = 2:=by
    revert hc h3;revert v
    intro v _ hc h3
    exact c1o (fun v=>decide (a26 v = 2) = true → v = 2) (by decide) (by decide) (by decide) (by decide) h3 hc
   exact this ▸ h
  ·intro h;exact ⟨2,h,by decide⟩
 unfold e26 d5u
 rw [d67 l _ hv,hx]
 cases hf:l.findIdx? (fun v=>decide (v ≠ 3)) with
 | none=>
  have hn:=List.findIdx?_eq_none_iff.1 hf
  have h1:∀ k,k ≠ 3 → k ∉ l:=fun k hk hm=>by have:=hn k hm;simp [hk] at this
  simp only [h1 0 (by decide),h1 1 (by decide),h1 2 (by decide),decide_false,Bool.or_false]
  decide
 | some i=>
  obtain ⟨hi,hp,_⟩:=List.findIdx?_eq_some_iff_getElem.1 hf
  have hm:l.getD i 0 ∈ l:=by rw [List.getD,List.getElem?_eq_getElem hi];exact List.getElem_mem hi
  have he:l.getD i 0 ≠ 3:=by rw [List.getD,List.getElem?_eq_getElem hi];simpa using hp
  have h3:=hv _ hm
  show a0l (if _ then 2 else l.getD i 0) = _ ∧ (if _ then 2 else l.getD i 0) ≤ 3
  generalize l.getD i 0 = w at hm he h3 ⊢
  have hw:w = 0 ∨ w = 1 ∨ w = 2:=by omega
  simp only [Bool.false_or]
  by_cases h2:2 ∈ l
  ·simp only [h2,decide_true,Bool.or_true,if_true]
   cases decide (1 ∈ l)<;>cases decide (0 ∈ l)<;>decide
  ·simp only [h2,decide_false,Bool.or_false]
   rcases hw with rfl|rfl|rfl
   ·simp only [hm,decide_true,Bool.true_and]
    cases decide (1 ∈ l)<;>decide
   ·simp only [hm,decide_true,Bool.and_true]
    cases decide (0 ∈ l)<;>decide
   ·exact absurd hm h2
theorem e7m (l:List Nat):(l.map a0l).map b69 = l.map vR:=by rw [List.map_map];rfl
theorem a9e (l:List Nat) (i:Nat) (hi:i < l.length):(l.map vR).getD i (false,false) = vR (l.getD i 2):=by
 simp only [List.getD_eq_getElem?_getD,List.getElem?_map,List.getElem?_eq_getElem hi,Option.map_some,Option.getD_some]
theorem d92 (l:List Nat) (hv:∀ v ∈ l,v ≤ 3) (i:Nat):l.getD i 2 ≤ 3:=by
 simp only [List.getD_eq_getElem?_getD]
 cases h:l[i]? with
 | none=>decide
 | some v=>exact hv v (List.mem_of_getElem? h)
theorem b9e (k:Nat) (l:List Nat) (hv:∀ v ∈ l,v ≤ 3):a0l (a4f k l) = c0h k (l.map a0l) ∧ a4f k l ≤ 3:=by
 unfold a4f c0h
 rw [List.length_map]
 split
 ·decide
 rename_i hlen
 have lo:a1m k ≤ l.length:=by omega
 by_cases h13:k = 13
 ·subst h13;rw [if_pos rfl];exact d4h l hv
 rw [if_neg h13,e7m]
 have g:=d92 l hv
 unfold a47
 split
 ·exact ⟨rfl,by decide⟩
 ·exact ⟨rfl,by decide⟩
 ·show a0l (a4s (l.getD 0 2)) = (l.map vR).getD 0 (false,false) ∧ _
  rw [a9e _ _ (Nat.lt_of_lt_of_le (by decide) lo)];exact c43 (g 0)
 ·show a0l (b29 (l.getD 0 2)) = c5z ((l.map vR).getD 0 (false,false)) ∧ _
  rw [a9e _ _ (Nat.lt_of_lt_of_le (by decide) lo)];exact c7r (g 0)
 ·have:=b0m l 1 (.inl rfl) hv;exact ⟨this.1.symm,by omega⟩
 ·have:=b0m l 1 (.inl rfl) hv
  show a0l (b29 (a6n 0 1 1 l)) = c5z ((l.map vR).foldl c0i (a0l 1)) ∧ _
  rw [this.1];exact b14 this.2
 ·have:=b2z l 0 (.inl rfl) hv;exact ⟨this.1.symm,by omega⟩
 ·have:=b2z l 0 (.inl rfl) hv
  show a0l (b29 (a6n 1 0 0 l)) = c5z ((l.map vR).foldl vOr (a0l 0)) ∧ _
  rw [this.1];exact b14 this.2
 ·have:=b20 l 0 (.inl rfl) hv;exact ⟨this.1.symm,by omega⟩
 ·have:=b20 l 0 (.inl rfl) hv
  show a0l (b29 (b4x 0 l)) = c5z ((l.map vR).foldl c0g (a0l 0)) ∧ _
  rw [this.1];exact b14 this.2
 ·show a0l (b8t (l.getD 0 2) (l.getD 1 2) (l.getD 2 2)) = e0u ((l.map vR).getD 0 (false,false)) ((l.map vR).getD 1 (false,false)) ((l.map vR).getD 2 (false,false)) ∧ _
  rw [a9e _ _ (Nat.lt_of_lt_of_le (by decide) lo),a9e _ _ (Nat.lt_of_lt_of_le (by decide) lo),a9e _ _ (Nat.lt_of_lt_of_le (by decide) lo)];exact d2h (g 0) (g 1) (g 2)
 ·show a0l (c1a (l.getD 0 2) (l.getD 1 2)) = e0t ((l.map vR).getD 0 (false,false)) ((l.map vR).getD 1 (false,false)) ∧ _
  rw [a9e _ _ (Nat.lt_of_lt_of_le (by decide) lo),a9e _ _ (Nat.lt_of_lt_of_le (by decide) lo)];exact d1d (g 0) (g 1)
 ·exact absurd rfl h13
 ·refine ⟨?_,by decide⟩
  unfold c25
  split<;>first|rfl|(exfalso;simp_all)
end Go.Pc
/- PcTwo: the simulation over values; what is laid into the nets before it begins does not matter. Plain. -/
namespace Go.Pc
open Go.Ax
theorem c5h (v:Nat):a0l (a26 v) = a0l v:=by
 unfold a0l
 have:a26 (a26 v) = a26 v:=by unfold a26;split<;>simp<;>omega
 rw [this]
theorem c3o (v:Nat):a26 v ≤ 3:=by unfold a26;split<;>omega
theorem c3p {v:Nat} (h:v ≤ 3):a26 v = v:=by unfold a26;rw [if_neg (by omega)]
theorem b35 {l:List Nat} (h:∀ v ∈ l,v ≤ 3):l.map a26 = l:=by
 have:=List.map_congr_left (f:=a26) (g:=fun v=>v) (l:=l) (fun v hv=>c3p (h v hv))
 rw [this,List.map_id']
def nAlg:Alg Nat:=⟨fun k l=>a4f k (l.map a26),0,fun v=>v⟩
def vAlg0:Alg V2:=⟨c0h,a0l 0,a0l⟩
theorem e35:Hom nAlg vAlg0 a0l:=by
 refine ⟨fun k l=>?_,rfl,fun v=>rfl⟩
 have h:=(b9e k (l.map a26) (fun v hv=>by obtain ⟨w,_,rfl⟩:=List.mem_map.1 hv;exact c3o w)).1
 show a0l (a4f k (l.map a26)) = c0h k (l.map a0l)
 rw [h,List.map_map]
 congr 1
 exact List.map_congr_left fun v _=>c5h v
theorem c2q (k:Nat) (l:List Nat) (h:∀ v ∈ l,v ≤ 3):a4f k l ≤ 3:=(b9e k l h).2
section
variable {α:Type} {A B:Alg α} (hev:A.ev = B.ev) {nodes:List Nd} {h:Hk α}
def Agr (P:Nat → Prop) (a b:List α):Prop:=a.length = b.length ∧ ∀ n,P n → a[n]? = b[n]?
theorem b38:∀ (is:List Nat) (vs:List α) (a b:List α) (P:Nat → Prop),Agr P a b → (∀ i ∈ is,i < a.length) → is.length = vs.length → Agr (fun n=>P n ∨ n ∈ is) (a1i a is vs) (a1i b is vs)
 | [],vs,a,b,P,hab,_,_=>by
  cases vs<;>exact ⟨hab.1,fun n hn=>hab.2 n (by simpa using hn)⟩
 | i :: is,[],a,b,P,hab,_,hl=>by simp at hl
 | i :: is,v :: vs,a,b,P,hab,hlt,hl=>by
  simp only [a1i]
  have:=b38 is vs (a.set i v) (b.set i v) (fun n=>P n ∨ n = i) ⟨by simp [hab.1],fun n hn=>by
   rw [List.getElem?_set,List.getElem?_set,← hab.1]
   by_cases hi:i = n
   ·simp [hi]
   ·rw [if_neg hi,if_neg hi]
    rcases hn with hn|hn
    ·exact hab.2 n hn
    ·exact absurd hn.symm hi⟩ (fun j hj=>by rw [List.length_set];exact hlt j (List.mem_cons_of_mem _ hj)) (by simpa using hl)
  refine ⟨this.1,fun n hn=>this.2 n ?_⟩
  rcases hn with hn|hn
  ·exact .inl (.inl hn)
  ·rcases List.mem_cons.1 hn with rfl|hn
   ·exact .inl (.inr rfl)
   ·exact .inr hn
theorem a9b (n:Nat) (a b:List α) (hl:a.length = b.length):∀ (l:List Nat) (p:Nat),(∀ m ∈ l,m < a.length ∧ a[m]? = b[m]?) → a33 A h n a p l = a33 B h n b p l
 | [],_,_=>rfl
 | m :: r,p,hm=>by
  obtain ⟨h1,h2⟩:=hm m (List.mem_cons_self ..)
  simp only [a33,a9b n a b hl r (p + 1) (fun x hx=>hm x (List.mem_cons_of_mem _ hx))]
  congr 2
  rw [List.getD,List.getD,← h2,List.getElem?_eq_getElem h1];rfl
include hev in
theorem c39 (S:Nat → Prop):∀ (ord done:List Nat) (a b:List α),Agr (fun n=>n ∈ done ∨ S n) a b → a.length = nodes.length → (∀ n ∈ ord,n < nodes.length) → (∀ n ∈ ord,a0q nodes n = 0 ∨ a0q nodes n = 14 → S n) →
 (∀ (i n:Nat),ord[i]? = some n → a0q nodes n ≠ 0 ∧ a0q nodes n ≠ 14 → ∀ m ∈ a22 nodes n,m < nodes.length ∧ (m ∈ done ∨ m ∈ ord.take i)) →
 Agr (fun n=>n ∈ done ∨ n ∈ ord ∨ S n) (ord.foldl (stepG A nodes h) a) (ord.foldl (stepG B nodes h) b)
 | [],done,a,b,hab,hl,_,_,_=>⟨hab.1,fun n hn=>hab.2 n (by simpa using hn)⟩
 | x :: ord,done,a,b,hab,hl,hlt,hS,ht=>by
  rw [List.foldl_cons,List.foldl_cons]
  have hx:=hlt x (List.mem_cons_self ..)
  have hst:(if a0q nodes x ≠ 0 ∧ a0q nodes x ≠ 14 then A.ev (a0q nodes x) (a0p A nodes h a x) else a.getD x A.z) = (if a0q nodes x ≠ 0 ∧ a0q nodes x ≠ 14 then B.ev (a0q nodes x) (a0p B nodes h b x) else b.getD x B.z):=by
   by_cases hk:a0q nodes x ≠ 0 ∧ a0q nodes x ≠ 14
   ·rw [if_pos hk,if_pos hk,hev]
    congr 1
    refine a9b x a b hab.1 _ 0 (fun m hm=>?_)
    obtain ⟨h1,h2⟩:=ht 0 x rfl hk m hm
    refine ⟨by omega,hab.2 m (.inl ?_)⟩
    rcases h2 with h2|h2
    ·exact h2
    ·simp at h2
   ·rw [if_neg hk,if_neg hk]
    have h1:=hab.2 x (.inr (hS x (List.mem_cons_self ..) (by omega)))
    rw [List.getD,List.getD,← h1,List.getElem?_eq_getElem (by omega)];rfl
  have hstep:Agr (fun n=>n ∈ x :: done ∨ S n) (stepG A nodes h a x) (stepG B nodes h b x):=by
   unfold stepG
   rw [hst]
   refine ⟨by simp [hab.1],fun n hn=>?_⟩
   rw [List.getElem?_set,List.getElem?_set,← hab.1]
   by_cases hi:x = n
   ·simp [hi]
   ·rw [if_neg hi,if_neg hi]
    refine hab.2 n ?_
    rcases hn with hn|hn
    ·rcases List.mem_cons.1 hn with rfl|hn
     ·exact absurd rfl hi
     ·exact .inl hn
    ·exact .inr hn
  have:=c39 S ord (x :: done) _ _ hstep (by rw [b89];exact hl) (fun n hn=>hlt n (List.mem_cons_of_mem _ hn)) (fun n hn=>hS n (List.mem_cons_of_mem _ hn)) (fun i n hi hk m hm=>by
   obtain ⟨h1,h2⟩:=ht (i + 1) n (by simpa using hi) hk m hm
   refine ⟨h1,?_⟩
   rcases h2 with h2|h2
   ·exact .inl (List.mem_cons_of_mem _ h2)
   ·rw [List.take_succ_cons] at h2
    rcases List.mem_cons.1 h2 with rfl|h2
    ·exact .inl (List.mem_cons_self ..)
    ·exact .inr h2)
  refine ⟨this.1,fun n hn=>this.2 n ?_⟩
  rcases hn with hn|hn|hn
  ·exact .inl (List.mem_cons_of_mem _ hn)
  ·rcases List.mem_cons.1 hn with rfl|hn
   ·exact .inl (List.mem_cons_self ..)
   ·exact .inr (.inl hn)
  ·exact .inr (.inr hn)
include hev in
theorem d8a {ord ins sts:List Nat} {vi vs:List α} (hp:ord.Perm (List.range nodes.length)) (ht:e1z nodes ord) (hcomb:∀ n,n < nodes.length → a0q nodes n ≠ 0 ∧ a0q nodes n ≠ 14 → a1s (a0q nodes n) = true)
 (hin:∀ n,n < nodes.length → ∀ m ∈ a22 nodes n,m < nodes.length) (hi:∀ n,n < nodes.length → a0q nodes n = 0 → n ∈ ins) (hs:∀ n,n < nodes.length → a0q nodes n = 14 → n ∈ sts)
 (hil:∀ i ∈ ins,i < nodes.length) (hsl:∀ i ∈ sts,i < nodes.length) (hvi:ins.length = vi.length) (hvs:sts.length = vs.length):b1x A nodes h ord ins sts vi vs = b1x B nodes h ord ins sts vi vs:=by
 have h0:Agr (fun _=>False) (List.replicate nodes.length A.z) (List.replicate nodes.length B.z):=⟨by simp,fun n hn=>hn.elim⟩
 have h1:=b38 ins vi _ _ _ h0 (fun i hh=>by simpa using hil i hh) hvi
 have h2:=b38 sts vs _ _ _ h1 (fun i hh=>by rw [a2c];simpa using hsl i hh) hvs
 have hlen:(a1i (a1i (List.replicate nodes.length A.z) ins vi) sts vs).length = nodes.length:=by rw [a2c,a2c];simp
 have hmem:∀ n,n ∈ ord ↔ n < nodes.length:=fun n=>by rw [hp.mem_iff];simp
 have h3:=c39 (nodes:=nodes) (h:=h) hev (fun n=>(False ∨ n ∈ ins) ∨ n ∈ sts) ord [] _ _ ⟨h2.1,fun n hn=>h2.2 n (by simpa using hn)⟩ hlen (fun n hn=>(hmem n).1 hn) (fun n hn hk=>by
  have hn:=(hmem n).1 hn
  rcases hk with hk|hk
  ·exact .inl (.inr (hi n hn hk))
  ·exact .inr (hs n hn hk)) (fun i n hin' hk m hm=>by
  have hn:=(hmem n).1 (List.mem_of_getElem? hin')
  exact ⟨hin n hn m hm,.inr (ht i n hin' (hcomb n hn hk) m hm)⟩)
 unfold b1x
 apply List.ext_getElem?
 intro n
 by_cases hn:n < nodes.length
 ·exact h3.2 n (.inr (.inl ((hmem n).2 hn)))
 ·rw [List.getElem?_eq_none (by rw [a8w,hlen];omega),List.getElem?_eq_none (by rw [a8w,← h2.1,hlen];omega)]
omit hev in
theorem d7d {outs sts:List Nat} {nets:List α} (ho:∀ n ∈ outs,n < nets.length) (hs:∀ n ∈ sts,a22 nodes n ≠ [] ∧ ∀ m ∈ a22 nodes n,m < nets.length):b2m A nodes h outs sts nets = b2m B nodes h outs sts nets:=by
 unfold b2m
 congr 1
 ·exact List.map_congr_left fun n hn=>by rw [List.getD,List.getD,List.getElem?_eq_getElem (ho n hn)];rfl
 ·refine List.map_congr_left fun n hn=>?_
  obtain ⟨h1,h2⟩:=hs n hn
  have e:a0p A nodes h nets n = a0p B nodes h nets n:=a9b n nets nets rfl _ 0 (fun m hm=>⟨h2 m hm,rfl⟩)
  rw [e]
  have hl:0 < (a0p B nodes h nets n).length:=by rw [a3t];exact List.length_pos_iff.2 h1
  rw [List.getD,List.getD,List.getElem?_eq_getElem hl];rfl
end
end Go.Pc
/- PcDet: what a pattern detects, by values: the responses of the two runs contradict each other. Plain. -/
namespace Go.Pc
open Go.Ax
def con (x y:Nat):Bool:=decide (x ≤ 1) && decide (y ≤ 1) && decide (x ≠ y)
def b1t:List Nat → List Nat → Bool
 | x :: xs,y :: ys=>con x y || b1t xs ys
 | _,_=>false
theorem d4b {x y:Nat} (hx:x ≤ 3) (hy:y ≤ 3):e4l (a0l x) (a0l y) = con x y:=by
 have h:∀ x:Fin 4,∀ y:Fin 4,e4l (a0l x) (a0l y) = con x y:=by decide
 exact h ⟨x,by omega⟩ ⟨y,by omega⟩
theorem d4a {x y:Nat} (hx:x ≤ 3) (hy:y ≤ 3):con (a4s x) (if y = 3 then 2 else y) = con x y:=by
 have h:∀ x:Fin 4,∀ y:Fin 4,con (a4s x) (if (y:Nat) = 3 then 2 else y) = con x y:=by decide
 exact h ⟨x,by omega⟩ ⟨y,by omega⟩
theorem b4z:∀ (a b:List Nat) (s:Bool),(∀ v ∈ a,v ≤ 3) → (∀ v ∈ b,v ≤ 3) → b86 (a.map a0l) (b.map a0l) s = (s || b1t a b)
 | [],b,s,_,_=>by cases b<;>simp [b86,b1t]
 | x :: xs,[],s,_,_=>by simp [b86,b1t]
 | x :: xs,y :: ys,s,ha,hb=>by
  simp only [List.map_cons,b86,b1t]
  rw [b4z xs ys _ (fun v h=>ha v (List.mem_cons_of_mem _ h)) (fun v h=>hb v (List.mem_cons_of_mem _ h)),d4b (ha x (List.mem_cons_self ..)) (hb y (List.mem_cons_self ..)),Bool.or_assoc]
theorem b42:∀ (a b c d:List Nat),a.length = b.length → b1t (a ++ c) (b ++ d) = (b1t a b || b1t c d)
 | [],[],c,d,_=>by simp [b1t]
 | [],_ :: _,_,_,h=>by simp at h
 | _ :: _,[],_,_,h=>by simp at h
 | x :: xs,y :: ys,c,d,h=>by
  simp only [List.cons_append,b1t]
  rw [b42 xs ys c d (by simpa using h),Bool.or_assoc]
theorem c3l {α:Type} (f g f' g':α → Nat):∀ (l:List α),(∀ x ∈ l,con (f x) (g x) = con (f' x) (g' x)) → b1t (l.map f) (l.map g) = b1t (l.map f') (l.map g')
 | [],_=>rfl
 | x :: l,h=>by
  simp only [List.map_cons,b1t]
  rw [h x (List.mem_cons_self ..),c3l f g f' g' l (fun y hy=>h y (List.mem_cons_of_mem _ hy))]
def a7k (nodes:List Nd) (h:Hk Nat) (nets:List Nat) (sts:List Nat):List Nat:=sts.map fun n=>if (a0p nAlg nodes h nets n).getD 0 0 = 3 then 2 else (a0p nAlg nodes h nets n).getD 0 0
def d5a (h:Hk Nat):Prop:=(∀ n v,v ≤ 3 → h.net n v ≤ 3) ∧ ∀ n p v,v ≤ 3 → h.pin n p v ≤ 3
theorem c91:d5a hk0:=⟨fun _ _ h=>h,fun _ _ _ h=>h⟩
theorem d5w {f:Flt} {v:Nat} (h:v ≤ 3):d5a (hkF f v):=by
 constructor
 ·intro n w hw;unfold hkF;dsimp only;split
  ·exact h
  ·exact hw
 ·intro n p w hw;unfold hkF;dsimp only;split
  ·exact h
  ·exact hw
theorem a6f {l:List Nat} (h:∀ v ∈ l,v ≤ 3) (n:Nat):l.getD n 0 ≤ 3:=by
 rw [List.getD]
 cases hn:l[n]? with
 | none=>decide
 | some v=>exact h v (List.mem_of_getElem? hn)
theorem c2h {h:Hk Nat} (hh:d5a h) {nets:List Nat} (hn:∀ v ∈ nets,v ≤ 3) (n:Nat):∀ (l:List Nat) (p:Nat),∀ v ∈ a33 nAlg h n nets p l,v ≤ 3
 | [],p,v,hv=>by simp [a33] at hv
 | m :: l,p,v,hv=>by
  simp only [a33,List.mem_cons] at hv
  rcases hv with rfl|hv
  ·exact hh.2 _ _ _ (a6f hn m)
  ·exact c2h hh hn n l (p + 1) v hv
theorem c7v (k:Nat) (l:List Nat):nAlg.ev k l ≤ 3:=c2q k _ (fun v hv=>by obtain ⟨w,_,rfl⟩:=List.mem_map.1 hv;exact c3o w)
theorem c6g {nodes:List Nd} {h:Hk Nat} (hh:d5a h) {nets:List Nat} (hn:∀ v ∈ nets,v ≤ 3) (n:Nat):∀ v ∈ stepG nAlg nodes h nets n,v ≤ 3:=by
 intro v hv
 unfold stepG at hv
 rcases List.mem_or_eq_of_mem_set hv with h1|h1
 ·exact hn v h1
 ·rw [h1]
  refine hh.1 _ _ ?_
  split
  ·exact c7v _ _
  ·exact a6f hn n
theorem c9b {nodes:List Nd} {h:Hk Nat} (hh:d5a h):∀ (ord:List Nat) (nets:List Nat),(∀ v ∈ nets,v ≤ 3) → ∀ v ∈ ord.foldl (stepG nAlg nodes h) nets,v ≤ 3
 | [],nets,hn=>hn
 | x :: ord,nets,hn=>by rw [List.foldl_cons];exact c9b hh ord _ (c6g hh hn x)
theorem b36:∀ (is vs N:List Nat),(∀ v ∈ N,v ≤ 3) → (∀ v ∈ vs,v ≤ 3) → ∀ v ∈ a1i N is vs,v ≤ 3
 | [],vs,N,h,_=>by cases vs<;>exact h
 | _ :: _,[],N,h,_=>h
 | i :: is,w :: vs,N,h,hv=>by
  simp only [a1i]
  refine b36 is vs _ (fun v hm=>?_) (fun v hm=>hv v (List.mem_cons_of_mem _ hm))
  rcases List.mem_or_eq_of_mem_set hm with h1|h1
  ·exact h v h1
  ·rw [h1];exact hv w (List.mem_cons_self ..)
theorem b6w {nodes:List Nd} {h:Hk Nat} (hh:d5a h) (ord ins sts vi vs:List Nat) (hi:∀ v ∈ vi,v ≤ 3) (hs:∀ v ∈ vs,v ≤ 3):∀ v ∈ b1x nAlg nodes h ord ins sts vi vs,v ≤ 3:=
 c9b hh _ _ (b36 _ _ _ (b36 _ _ _ (fun v hv=>by rw [List.eq_of_mem_replicate hv];show (0:Nat) ≤ 3;decide) hi) hs)
structure Sim.good (S:Sim):Prop where
 perm:S.ord.Perm (List.range S.nodes.length)
 topo:e1z S.nodes S.ord
 comb:∀ n,n < S.nodes.length → a0q S.nodes n ≠ 0 ∧ a0q S.nodes n ≠ 14 → a1s (a0q S.nodes n) = true
 inn:∀ n,n < S.nodes.length → ∀ m ∈ a22 S.nodes n,m < S.nodes.length
 ins:∀ n,n ∈ S.ins ↔ n < S.nodes.length ∧ a0q S.nodes n = 0
 sts:∀ n,n ∈ S.sts ↔ n < S.nodes.length ∧ a0q S.nodes n = 14
 dff:∀ n ∈ S.sts,a22 S.nodes n ≠ []
 outs:∀ n ∈ S.outs,n < S.nodes.length
section
variable {S:Sim} (hS:S.good) {p:Pat} (hpi:S.ins.length = p.ins.length) (hps:S.sts.length = p.sts.length)
include hS hpi hps
theorem Sim.good.nets (h:Hk V2):S.nets vAlg h (p.ins.map a0l) (p.sts.map a0l) = S.nets vAlg0 h (p.ins.map a0l) (p.sts.map a0l):=
 d8a (A:=vAlg) (B:=vAlg0) rfl hS.perm hS.topo hS.comb hS.inn (fun n hn hk=>(hS.ins n).2 ⟨hn,hk⟩) (fun n hn hk=>(hS.sts n).2 ⟨hn,hk⟩) (fun n hn=>((hS.ins n).1 hn).1) (fun n hn=>((hS.sts n).1 hn).1) (by simpa using hpi) (by simpa using hps)
omit hpi hps in
theorem Sim.good.seen (h:Hk V2) (nets:List V2) (hl:nets.length = S.nodes.length):S.seen vAlg h nets = S.seen vAlg0 h nets:=
 d7d (fun n hn=>by rw [hl];exact hS.outs n hn) (fun n hn=>⟨hS.dff n hn,fun m hm=>by rw [hl];exact hS.inn n ((hS.sts n).1 hn).1 m hm⟩)
theorem Sim.good.det (f:Flt) (hm:f.model = 0 → f.value ≤ 3) (hfn:f.node < S.nodes.length) (hfo:f.other < S.nodes.length) (hiv:∀ v ∈ p.ins,v ≤ 3) (hsv:∀ v ∈ p.sts,v ≤ 3) :
 S.det f p = (b1t (S.outs.map fun n=>(S.nets nAlg hk0 p.ins p.sts).getD n 0) (S.outs.map fun n=>(S.nets nAlg (hkF f (a16 nAlg (S.nets nAlg hk0 p.ins p.sts) f)) p.ins p.sts).getD n 0) ||
  b1t (S.sts.map fun n=>a4s ((S.nets nAlg hk0 p.ins p.sts).getD ((a22 S.nodes n).getD 0 0) 0)) (a7k S.nodes (hkF f (a16 nAlg (S.nets nAlg hk0 p.ins p.sts) f)) (S.nets nAlg (hkF f (a16 nAlg (S.nets nAlg hk0 p.ins p.sts) f)) p.ins p.sts) S.sts)):=by
 have hG:S.nets vAlg hk0 (p.ins.map a0l) (p.sts.map a0l) = (S.nets nAlg hk0 p.ins p.sts).map a0l:=by
  rw [hS.nets hpi hps]
  exact (b02 e35 b77 _ _ _ _ _).symm
 have hGl:(S.nets nAlg hk0 p.ins p.sts).length = S.nodes.length:=b01 _ _ _ _ _
 have hGv:∀ v ∈ S.nets nAlg hk0 p.ins p.sts,v ≤ 3:=b6w c91 _ _ _ _ _ hiv hsv
 generalize hgd:S.nets nAlg hk0 p.ins p.sts = G at hG hGl hGv
 have hF:a16 vAlg (G.map a0l) f = a0l (a16 nAlg G f):=by
  have h1:=b5s e35 G f
  rw [h1]
  unfold a16
  have hz:∀ n,n < S.nodes.length → (G.map a0l).getD n vAlg.z = (G.map a0l).getD n vAlg0.z:=fun n hn=>by
   rw [List.getD,List.getD,List.getElem?_eq_getElem (by rw [List.length_map,hGl];exact hn)];rfl
  rw [hz _ hfn,hz _ hfo]
  rfl
 have hFv:a16 nAlg G f ≤ 3:=by
  unfold a16
  split
  ·rename_i h;exact hm h
  split
  ·exact a6f hGv _
  split<;>exact c7v _ _
 have hh:=d5w (f:=f) hFv
 have hB:S.nets vAlg (hkF f (a0l (a16 nAlg G f))) (p.ins.map a0l) (p.sts.map a0l) = (S.nets nAlg (hkF f (a16 nAlg G f)) p.ins p.sts).map a0l:=by
  rw [hS.nets hpi hps]
  exact (b02 e35 (c1l f _) _ _ _ _ _).symm
 have hBl:(S.nets nAlg (hkF f (a16 nAlg G f)) p.ins p.sts).length = S.nodes.length:=b01 _ _ _ _ _
 have hBv:∀ v ∈ S.nets nAlg (hkF f (a16 nAlg G f)) p.ins p.sts,v ≤ 3:=b6w hh _ _ _ _ _ hiv hsv
 unfold Sim.det
 dsimp only
 rw [hG,hF,hB]
 generalize a16 nAlg G f = q at hh hB hBl hBv ⊢
 generalize S.nets nAlg (hkF f q) p.ins p.sts = B at hB hBl hBv ⊢
 rw [hS.seen hk0 _ (by rw [List.length_map];exact hGl),hS.seen (hkF f (a0l q)) _ (by rw [List.length_map];exact hBl)]
 have e1:S.seen vAlg0 hk0 (G.map a0l) = (S.seen nAlg hk0 G).map a0l:=(a9s e35 b77 _ _ _).symm
 have e2:S.seen vAlg0 (hkF f (a0l q)) (B.map a0l) = (S.seen nAlg (hkF f q) B).map a0l:=(a9s e35 (c1l f _) _ _ _).symm
 rw [e1,e2]
 have key:∀ (h:Hk Nat) (N:List Nat),d5a h → (∀ v ∈ N,v ≤ 3) → ∀ v ∈ S.seen nAlg h N,v ≤ 3:=by
  intro h N hh hN v hv
  unfold Sim.seen b2m at hv
  rcases List.mem_append.1 hv with hv|hv
  ·obtain ⟨n,_,rfl⟩:=List.mem_map.1 hv;exact a6f hN n
  ·obtain ⟨n,_,rfl⟩:=List.mem_map.1 hv;exact a6f (fun v hv=>c2h hh hN n _ _ v hv) 0
 rw [b4z _ _ _ (key _ _ c91 hGv) (key _ _ hh hBv),Bool.false_or]
 unfold Sim.seen b2m
 rw [b42 _ _ _ _ (by simp)]
 congr 1
 unfold a7k
 refine c3l _ _ _ _ _ (fun n hn=>?_)
 have hr:(a0p nAlg S.nodes hk0 G n).getD 0 0 = G.getD ((a22 S.nodes n).getD 0 0) 0:=by
  have hd:=hS.dff n hn
  unfold a0p
  cases hi:a22 S.nodes n with
  | nil=>exact absurd hi hd
  | cons m l=>rfl
 have hx:G.getD ((a22 S.nodes n).getD 0 0) 0 ≤ 3:=a6f hGv _
 have hy:(a0p nAlg S.nodes (hkF f q) B n).getD 0 0 ≤ 3:=a6f (fun v hv=>c2h hh hBv n _ _ v hv) 0
 show con ((a0p nAlg S.nodes hk0 G n).getD 0 0) _ = _
 rw [hr,d4a hx hy]
 rfl
end
end Go.Pc
