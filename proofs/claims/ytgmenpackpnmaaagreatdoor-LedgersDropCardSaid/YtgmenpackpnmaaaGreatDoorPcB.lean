/- PcWord: words of 64 values as c8h data. Plain definitions. -/
import Derived.Test.YtgmenpackpnmaaaGreatDoorPcCir
import Derived.Test.YtgmenpackpnmaaaGreatDoorAxE
set_option linter.unusedSimpArgs false
set_option linter.unusedVariables false
namespace Go.Pc
open Go.Ax
structure W where
 one:BitVec 64
 zero:BitVec 64
def W.enc (w:W):List AV:=[u64 w.one,u64 w.zero]
attribute [go_sem] W.enc
def b0i (v:Nat):Nat:=if 3 < v then 2 else v
def a29 (v:Nat):W:=match b0i v with
 | 0=>⟨0#64,BitVec.allOnes 64⟩
 | 1=>⟨BitVec.allOnes 64,0#64⟩
 | 2=>⟨0#64,0#64⟩
 | _=>⟨BitVec.allOnes 64,BitVec.allOnes 64⟩
def c7b (a b:W):W:=⟨a.one &&& b.one,a.zero ||| b.zero⟩
def wOr (a b:W):W:=⟨a.one ||| b.one,a.zero &&& b.zero⟩
def c7a (a b:W):W:=⟨a.one &&& b.zero ||| a.zero &&& b.one,a.one &&& b.one ||| a.zero &&& b.zero⟩
def a5f (f:W → W → W) (z:W) (l:List W):W:=l.foldl f z
def a4c (w:W):W:=⟨w.one &&& ~~~(w.one &&& w.zero),w.zero &&& ~~~(w.one &&& w.zero)⟩
def d14 (w:W):W:=⟨w.zero,w.one⟩
def d5y (s a b:W):W:=⟨s.zero &&& a.one ||| s.one &&& b.one ||| a.one &&& b.one,s.zero &&& a.zero ||| s.one &&& b.zero ||| a.zero &&& b.zero⟩
def d5x (e d:W):W:=⟨e.zero ||| e.one &&& d.one,e.zero ||| e.one &&& d.zero⟩
def d52 (s:BitVec 64 × BitVec 64 × BitVec 64) (w:W):BitVec 64 × BitVec 64 × BitVec 64:=(s.1 ||| (w.one &&& ~~~w.zero),s.2.1 ||| (w.zero &&& ~~~w.one),s.2.2 ||| ~~~(w.one ||| w.zero))
def c2g (l:List W):BitVec 64 × BitVec 64 × BitVec 64:=l.foldl d52 (BitVec.ofInt 64 0,BitVec.ofInt 64 0,BitVec.ofInt 64 0)
def d8w (s:BitVec 64 × BitVec 64 × BitVec 64):W:=⟨~~~s.2.1 &&& ~~~(s.2.2 ||| (s.1 &&& s.2.1)),~~~s.1 &&& ~~~(s.2.2 ||| (s.1 &&& s.2.1))⟩
def c31 (l:List W):W:=d8w (c2g l)
theorem b7h {l:List W} {i:Nat} {x:W} (h:l[i]? = some x):c2g (l.take (i + 1)) = d52 (c2g (l.take i)) x:=by
 unfold c2g;rw [a0z h,List.foldl_append];rfl
theorem a9i {f:W → W → W} {z:W} {l:List W} {i:Nat} {x:W} (h:l[i]? = some x):a5f f z (l.take (i + 1)) = f (a5f f z (l.take i)) x:=by
 unfold a5f;rw [a0z h,List.foldl_append];rfl
theorem d4k (l:List W):FlatR (l.map W.enc):=FlatR.map fun _=>rfl
theorem a30 (l:List W):(l.map W.enc).flatMap a0c = []:=a06 (d4k l)
theorem a4r (π:Nat → Option Nat) (l:List W):(l.map W.enc).map (fun r=>r.map (ren π)) = l.map W.enc:=a04 π (d4k l)
attribute [go_sem] a30 a4r
def a1v (k:Nat):Nat:=[0,0,0,1,1,2,2,2,2,2,2,3,2,1,1,0].getD k 0
def a1i (k:Nat):Nat:=[0,0,0,1,1,16,16,16,16,16,16,3,2,16,1,0].getD k 0
def zW:W:=⟨0#64,0#64⟩
def a1h (k:Nat) (r:List W):W:=match k with
 | 1=>a29 0
 | 2=>a29 1
 | 3=>r.getD 0 zW
 | 4=>d14 (r.getD 0 zW)
 | 5=>a5f c7b (a29 1) r
 | 6=>d14 (a5f c7b (a29 1) r)
 | 7=>a5f wOr (a29 0) r
 | 8=>d14 (a5f wOr (a29 0) r)
 | 9=>a5f c7a (a29 0) r
 | 10=>d14 (a5f c7a (a29 0) r)
 | 11=>d5y (r.getD 0 zW) (r.getD 1 zW) (r.getD 2 zW)
 | 12=>d5x (r.getD 0 zW) (r.getD 1 zW)
 | _=>a29 2
def a3i (k:Nat) (l:List W):W:=
 if l.length < a1v k ∨ a1i k < l.length then a29 2
 else if k = 13 then c31 l
 else a1h k (l.map a4c)
def rdW (l:List W) (i:Nat):List W:=(l.take i).map a4c ++ List.replicate (l.length - i) zW
theorem b9m (l:List W):rdW l 0 = List.replicate l.length zW:=by simp [rdW]
theorem c48 (l:List W):rdW l l.length = l.map a4c:=by simp [rdW]
theorem c47 {l:List W} {i:Nat} (h:i < l.length):(rdW l i)[i]? = some zW:=by
 unfold rdW
 rw [List.getElem?_append_right (by simp;omega)]
 simp [List.getElem?_replicate]
 omega
theorem d3d {l:List W} {i:Nat} {x:W} (h:l[i]? = some x):(rdW l i).set i (a4c x) = rdW l (i + 1):=by
 have hi:=(List.getElem?_eq_some_iff.1 h).1
 unfold rdW
 rw [List.set_append_right _ _ (by simp;omega),a0z h,List.map_append,List.append_assoc]
 congr 1
 have e:l.length - i = (l.length - (i + 1)) + 1:=by omega
 rw [e,List.replicate_succ]
 have e2:i - ((l.take i).map a4c).length = 0:=by simp;omega
 rw [e2]
 rfl
theorem b9n {l:List W} {i:Nat} {x:W} (h:l[i]? = some x):((rdW l i).map W.enc).set i [u64 (a4c x).one,u64 (a4c x).zero] = (rdW l (i + 1)).map W.enc:=by
 rw [← d3d h,List.map_set];rfl
def d53 (n:Nat):BitVec 64:=BitVec.ofInt 64 1 <<< n
def b06 (w:W) (n v:Nat):W:=⟨w.one &&& ~~~d53 n ||| (a29 v).one &&& d53 n,w.zero &&& ~~~d53 n ||| (a29 v).zero &&& d53 n⟩
def a1r (k:Nat):Bool:=decide (1 ≤ k) && decide (k ≤ 13)
end Go.Pc
/- PcSim: one cycle of a circuit, over words or over single values; lanes of words are single values. Plain definitions. -/
namespace Go.Pc
open Go.Ax
structure Alg (α:Type) where
 ev:Nat → List α → α
 z:α
 fill:Nat → α
structure Hk (α:Type) where
 net:Nat → α → α
 pin:Nat → Nat → α → α
structure Flt where
 model:Nat
 node:Nat
 pin:Int
 value:Nat
 other:Nat
def Flt.enc (f:Flt):List AV:=[.int .u8 f.model,.int .i64 f.node,.int .i64 f.pin,.int .u8 f.value,.int .i64 f.other]
structure Pat where
 ic:Rep
 ins:List Nat
 sc:Rep
 sts:List Nat
def Pat.enc (p:Pat):List AV:=[sl p.ic (p.ins.map u8R),sl p.sc (p.sts.map u8R)]
section
variable {α:Type} (A:Alg α) (nodes:List Nd) (h:Hk α)
def a1d (nodes:List Nd) (n:Nat):Nat:=(nodes[n]?.map Nd.kind).getD 0
def a2s (nodes:List Nd) (n:Nat):List Nat:=(nodes[n]?.map Nd.ins).getD []
def a6k (n:Nat) (nets:List α):Nat → List Nat → List α
 | _,[]=>[]
 | p,m :: r=>h.pin n p (nets.getD m A.z) :: a6k n nets (p + 1) r
def a1q (nets:List α) (n:Nat):List α:=a6k A h n nets 0 (a2s nodes n)
def stepG (nets:List α) (n:Nat):List α:=
 nets.set n (h.net n (if a1d nodes n ≠ 0 ∧ a1d nodes n ≠ 14 then A.ev (a1d nodes n) (a1q A nodes h nets n) else nets.getD n A.z))
def a5r (nets:List α):List Nat → List α → List α
 | i :: is,v :: vs=>a5r (nets.set i v) is vs
 | _,_=>nets
def c1i (ord ins sts:List Nat) (vi vs:List α):List α:=
 ord.foldl (stepG A nodes h) (a5r (a5r (List.replicate nodes.length A.z) ins vi) sts vs)
def c14 (outs sts:List Nat) (nets:List α):List α:=
 outs.map (fun n=>nets.getD n A.z) ++ sts.map (fun n=>(a1q A nodes h nets n).getD 0 A.z)
def hk0:Hk α:=⟨fun _ w=>w,fun _ _ w=>w⟩
def a1s (good:List α) (f:Flt):α:=
 if f.model = 0 then A.fill f.value
 else if f.model = 3 then good.getD f.other A.z
 else if f.value = 0 then A.ev 5 [good.getD f.node A.z,good.getD f.other A.z]
 else A.ev 7 [good.getD f.node A.z,good.getD f.other A.z]
def Flt.hitsNet (f:Flt) (n:Nat):Bool:=decide (f.pin < 0) && (decide (n = f.node) || (decide (f.model = 2) && decide (n = f.other)))
def Flt.hitsPin (f:Flt) (n p:Nat):Bool:=decide (0 ≤ f.pin) && (decide (n = f.node) && decide ((p:Int) = f.pin))
def hkF (f:Flt) (v:α):Hk α:=⟨fun n w=>if f.hitsNet n then v else w,fun n p w=>if f.hitsPin n p then v else w⟩
end
structure Hom {α β:Type} (A:Alg α) (B:Alg β) (φ:α → β):Prop where
 ev:∀ k l,φ (A.ev k l) = B.ev k (l.map φ)
 z:φ A.z = B.z
 fill:∀ v,φ (A.fill v) = B.fill v
structure HkHom {α β:Type} (φ:α → β) (h:Hk α) (k:Hk β):Prop where
 net:∀ n w,φ (h.net n w) = k.net n (φ w)
 pin:∀ n p w,φ (h.pin n p w) = k.pin n p (φ w)
section
variable {α β:Type} {A:Alg α} {B:Alg β} {φ:α → β} (hφ:Hom A B φ) {nodes:List Nd} {h:Hk α} {k:Hk β} (hk:HkHom φ h k)
include hφ
theorem a6p (l:List α) (n:Nat):φ (l.getD n A.z) = (l.map φ).getD n B.z:=by
 simp only [List.getD_eq_getElem?_getD,List.getElem?_map]
 cases l[n]? with
 | none=>exact hφ.z
 | some x=>rfl
include hk
theorem b1a (n:Nat) (nets:List α):∀ (l:List Nat) (p:Nat),(a6k A h n nets p l).map φ = a6k B k n (nets.map φ) p l
 | [],_=>rfl
 | m :: r,p=>by simp only [a6k,List.map_cons,hk.pin,a6p hφ,b1a n nets r (p + 1)]
theorem b3i (nets:List α) (n:Nat):(a1q A nodes h nets n).map φ = a1q B nodes k (nets.map φ) n:=b1a hφ hk n nets _ 0
theorem c3c (nets:List α) (n:Nat):(stepG A nodes h nets n).map φ = stepG B nodes k (nets.map φ) n:=by
 unfold stepG
 rw [List.map_set,hk.net]
 congr 2
 split
 ·rw [hφ.ev,b3i hφ hk]
 ·exact a6p hφ _ _
omit hk in
omit hφ in
theorem b1l:∀ (is:List Nat) (vs:List α) (nets:List α),(a5r nets is vs).map φ = a5r (nets.map φ) is (vs.map φ)
 | [],vs,nets=>by cases vs<;>rfl
 | i :: is,[],nets=>rfl
 | i :: is,v :: vs,nets=>by simp only [a5r,List.map_cons,b1l is vs,List.map_set]
theorem b6i (ord ins sts:List Nat) (vi vs:List α):(c1i A nodes h ord ins sts vi vs).map φ = c1i B nodes k ord ins sts (vi.map φ) (vs.map φ):=by
 unfold c1i
 have key:∀ (ord:List Nat) (n0:List α),(ord.foldl (stepG A nodes h) n0).map φ = ord.foldl (stepG B nodes k) (n0.map φ):=by
  intro ord
  induction ord with
  | nil=>intro n0;rfl
  | cons a l ih=>intro n0;simp only [List.foldl_cons,ih,c3c hφ hk]
 rw [key,b1l,b1l,List.map_replicate,hφ.z]
theorem b64 (outs sts:List Nat) (nets:List α):(c14 A nodes h outs sts nets).map φ = c14 B nodes k outs sts (nets.map φ):=by
 unfold c14
 simp only [List.map_append,List.map_map]
 congr 1
 ·exact List.map_congr_left fun n _=>a6p hφ _ _
 ·refine List.map_congr_left fun n _=>?_
  simp only [Function.comp,a6p hφ,b3i hφ hk]
omit hk in
theorem c21 (good:List α) (f:Flt):φ (a1s A good f) = a1s B (good.map φ) f:=by
 unfold a1s
 split
 ·exact hφ.fill _
 split
 ·exact a6p hφ _ _
 split
 ·rw [hφ.ev];simp only [List.map_cons,List.map_nil,a6p hφ]
 ·rw [hφ.ev];simp only [List.map_cons,List.map_nil,a6p hφ]
omit hk hφ in
theorem c5f:HkHom φ (hk0:Hk α) (hk0:Hk β):=⟨fun _ _=>rfl,fun _ _ _=>rfl⟩
omit hk hφ in
theorem d48 (f:Flt) (v:α):HkHom φ (hkF f v) (hkF f (φ v)):=⟨fun n w=>by unfold hkF;dsimp only;split<;>rfl,fun n p w=>by unfold hkF;dsimp only;split<;>rfl⟩
end
/-! ### single values -/
abbrev V2:=Bool × Bool
def a2c (v:Nat):V2:=match b0i v with
 | 0=>(false,true)
 | 1=>(true,false)
 | 2=>(false,false)
 | _=>(true,true)
def d9a (a b:V2):V2:=(a.1 && b.1,a.2 || b.2)
def vOr (a b:V2):V2:=(a.1 || b.1,a.2 && b.2)
def d99 (a b:V2):V2:=(a.1 && b.2 || a.2 && b.1,a.1 && b.1 || a.2 && b.2)
def d2d (w:V2):V2:=(w.1 && !(w.1 && w.2),w.2 && !(w.1 && w.2))
def d75 (w:V2):V2:=(w.2,w.1)
def e11 (s a b:V2):V2:=(s.2 && a.1 || s.1 && b.1 || a.1 && b.1,s.2 && a.2 || s.1 && b.2 || a.2 && b.2)
def e10 (e d:V2):V2:=(e.2 || e.1 && d.1,e.2 || e.1 && d.2)
def c7l (s:Bool × Bool × Bool) (w:V2):Bool × Bool × Bool:=(s.1 || (w.1 && !w.2),s.2.1 || (w.2 && !w.1),s.2.2 || !(w.1 || w.2))
def d2c (s:Bool × Bool × Bool):V2:=(!s.2.1 && !(s.2.2 || (s.1 && s.2.1)),!s.1 && !(s.2.2 || (s.1 && s.2.1)))
def e13 (l:List V2):V2:=d2c (l.foldl c7l (false,false,false))
def c32 (k:Nat) (r:List V2):V2:=match k with
 | 1=>a2c 0
 | 2=>a2c 1
 | 3=>r.getD 0 (false,false)
 | 4=>d75 (r.getD 0 (false,false))
 | 5=>r.foldl d9a (a2c 1)
 | 6=>d75 (r.foldl d9a (a2c 1))
 | 7=>r.foldl vOr (a2c 0)
 | 8=>d75 (r.foldl vOr (a2c 0))
 | 9=>r.foldl d99 (a2c 0)
 | 10=>d75 (r.foldl d99 (a2c 0))
 | 11=>e11 (r.getD 0 (false,false)) (r.getD 1 (false,false)) (r.getD 2 (false,false))
 | 12=>e10 (r.getD 0 (false,false)) (r.getD 1 (false,false))
 | _=>a2c 2
def d2e (k:Nat) (l:List V2):V2:=
 if l.length < a1v k ∨ a1i k < l.length then a2c 2
 else if k = 13 then e13 l
 else c32 k (l.map d2d)
def a1l:Alg W:=⟨a3i,zW,a29⟩
def b2r:Alg V2:=⟨d2e,(false,false),a2c⟩
def a2l (j:Nat) (w:W):V2:=(w.one.getLsbD j,w.zero.getLsbD j)
section
variable {j:Nat} (hj:j < 64)
include hj
theorem a8y (v:Nat):a2l j (a29 v) = a2c v:=by
 have ha:(BitVec.allOnes 64).getLsbD j = true:=by rw [BitVec.getLsbD_allOnes];simpa using hj
 have hz:(0#64).getLsbD j = false:=BitVec.getLsbD_zero
 unfold a29 a2c
 split<;>simp only [a2l,ha,hz, *]
theorem c4z (w:W):a2l j (a4c w) = d2d (a2l j w):=by
 simp [a4c,d2d,a2l,hj]
omit hj in
theorem c91 (a b:W):a2l j (c7b a b) = d9a (a2l j a) (a2l j b):=by simp [c7b,d9a,a2l]
omit hj in
theorem d3z (a b:W):a2l j (wOr a b) = vOr (a2l j a) (a2l j b):=by simp [wOr,vOr,a2l]
omit hj in
theorem c8w (a b:W):a2l j (c7a a b) = d99 (a2l j a) (a2l j b):=by simp [c7a,d99,a2l]
omit hj in
theorem c8y (a:W):a2l j (d14 a) = d75 (a2l j a):=rfl
omit hj in
theorem c8z (s a b:W):a2l j (d5y s a b) = e11 (a2l j s) (a2l j a) (a2l j b):=by simp [d5y,e11,a2l]
omit hj in
theorem c8x (a b:W):a2l j (d5x a b) = e10 (a2l j a) (a2l j b):=by simp [d5x,e10,a2l]
omit hj in
theorem a8x {f:W → W → W} {g:V2 → V2 → V2} (h:∀ a b,a2l j (f a b) = g (a2l j a) (a2l j b)):∀ (l:List W) (z:W),a2l j (l.foldl f z) = (l.map (a2l j)).foldl g (a2l j z)
 | [],_=>rfl
 | a :: l,z=>by simp only [List.foldl_cons,List.map_cons,a8x h l,h]
def b6q (j:Nat) (s:BitVec 64 × BitVec 64 × BitVec 64):Bool × Bool × Bool:=(s.1.getLsbD j,s.2.1.getLsbD j,s.2.2.getLsbD j)
theorem c52 (s:BitVec 64 × BitVec 64 × BitVec 64) (w:W):b6q j (d52 s w) = c7l (b6q j s) (a2l j w):=by
 simp [b6q,d52,c7l,a2l,hj]
theorem c53 (s:BitVec 64 × BitVec 64 × BitVec 64):a2l j (d8w s) = d2c (b6q j s):=by
 simp [b6q,d8w,d2c,a2l,hj]
theorem c90 (l:List W):a2l j (c31 l) = e13 (l.map (a2l j)):=by
 unfold c31 e13 c2g
 rw [c53 hj]
 congr 1
 have key:∀ (l:List W) s,b6q j (l.foldl d52 s) = (l.map (a2l j)).foldl c7l (b6q j s):=by
  intro l
  induction l with
  | nil=>intro s;rfl
  | cons a l ih=>intro s;simp only [List.foldl_cons,List.map_cons,ih,c52 hj]
 rw [key]
 congr 1
 simp [b6q]
omit hj in
theorem c50 (l:List W) (n:Nat):a2l j (l.getD n zW) = (l.map (a2l j)).getD n (false,false):=by
 simp only [List.getD_eq_getElem?_getD,List.getElem?_map]
 cases l[n]? with
 | none=>simp [a2l,zW]
 | some x=>rfl
theorem c1p (k:Nat) (l:List W):a2l j (a1h k l) = c32 k (l.map (a2l j)):=by
 unfold a1h c32
 split<;>simp only [a8y hj,c8y,c8z,c8x,c50,a5f,a8x c91,a8x d3z,a8x c8w]
theorem c51 (k:Nat) (l:List W):a2l j (a3i k l) = d2e k (l.map (a2l j)):=by
 unfold a3i d2e
 rw [List.length_map]
 split
 ·exact a8y hj 2
 split
 ·exact c90 hj l
 ·rw [c1p hj,List.map_map,List.map_map]
  congr 1
  exact List.map_congr_left fun w _=>c4z hj w
theorem d40:Hom a1l b2r (a2l j):=⟨c51 hj,by simp [a1l,b2r,a2l,zW],a8y hj⟩
end
/-! ### contradictions -/
def ctr (x y:W):BitVec 64:=(x.one &&& ~~~x.zero &&& y.zero &&& ~~~y.one) ||| (x.zero &&& ~~~x.one &&& y.one &&& ~~~y.zero)
def e3m (x y:V2):Bool:=(x.1 && !x.2 && y.2 && !y.1) || (x.2 && !x.1 && y.1 && !y.2)
def b5y:List W → List W → BitVec 64 → BitVec 64
 | x :: xs,y :: ys,s=>b5y xs ys (s ||| ctr x y)
 | _,_,s=>s
def c7k:List V2 → List V2 → Bool → Bool
 | x :: xs,y :: ys,s=>c7k xs ys (s || e3m x y)
 | _,_,s=>s
theorem b6p {j:Nat} (hj:j < 64):∀ (a b:List W) (s:BitVec 64),(b5y a b s).getLsbD j = c7k (a.map (a2l j)) (b.map (a2l j)) (s.getLsbD j)
 | [],b,s=>by cases b<;>rfl
 | x :: xs,[],s=>rfl
 | x :: xs,y :: ys,s=>by
  simp only [b5y,c7k,List.map_cons,b6p hj xs ys]
  congr 1
  simp [ctr,e3m,a2l,hj]
/-! ### a circuit -/
structure Sim where
 nodes:List Nd
 ord:List Nat
 ins:List Nat
 sts:List Nat
 outs:List Nat
section
variable {α:Type} (A:Alg α) (S:Sim)
def Sim.nets (h:Hk α) (vi vs:List α):List α:=c1i A S.nodes h S.ord S.ins S.sts vi vs
def Sim.seen (h:Hk α) (nets:List α):List α:=c14 A S.nodes h S.outs S.sts nets
end
def Sim.det (S:Sim) (f:Flt) (p:Pat):Bool:=
 let vi:=p.ins.map a2c
 let vs:=p.sts.map a2c
 let good:=S.nets b2r hk0 vi vs
 let h:=hkF f (a1s b2r good f)
 c7k (S.seen b2r hk0 good) (S.seen b2r h (S.nets b2r h vi vs)) false
end Go.Pc
/- PcWf: the circuits of the statements are valid. Plain. -/
namespace Go.Pc
open Go.Ax
structure Cir.wf (c:Cir):Prop where
 pos:0 < c.nodes.length
 len:c.nodes.length ≤ 14
 names:c.names = (List.range c.nodes.length).map a2q
 kind:∀ x ∈ c.nodes,x.kind ≤ 14
 lo:∀ x ∈ c.nodes,a1v x.kind ≤ x.ins.length
 hi:∀ x ∈ c.nodes,x.ins.length ≤ a1i x.kind
 ins:∀ x ∈ c.nodes,∀ m ∈ x.ins,m < c.nodes.length
 bus:∀ x ∈ c.nodes,x.kind = 13 → ∀ m ∈ x.ins,a1d c.nodes m = 12
 mem:∀ x ∈ c.nodes,x.mem = 0 ∧ x.bit = 0
 acyc:∀ (i:Nat) (x:Nd),c.nodes[i]? = some x → a1r x.kind = true → ∀ m ∈ x.ins,m < i
 outs:∀ o ∈ c.outs,o < c.nodes.length
 outl:c.outs.length ≤ 4
theorem d4o {k:Nat} (h:k < 6):a1v (5 + k) = 2 ∧ a1i (5 + k) = 16:=by
 have:k = 0 ∨ k = 1 ∨ k = 2 ∨ k = 3 ∨ k = 4 ∨ k = 5:=by omega
 rcases this with rfl|rfl|rfl|rfl|rfl|rfl<;>exact ⟨rfl,rfl⟩
structure GateOk (ks:List Nat) (x:Nd):Prop where
 k1:1 ≤ x.kind
 k13:x.kind ≤ 13
 lo:a1v x.kind ≤ x.ins.length
 hi:x.ins.length ≤ a1i x.kind
 ins:∀ m ∈ x.ins,m < ks.length
 bus:x.kind = 13 → ∀ m ∈ x.ins,ks[m]? = some 12
 mem:x.mem = 0 ∧ x.bit = 0
theorem b99 {ks:List Nat} {i:Nat} (h:i < (a83 ks).length):(a83 ks).getD i 0 < ks.length ∧ ks[(a83 ks).getD i 0]? = some 12:=by
 have:(a83 ks).getD i 0 ∈ a83 ks:=by
  rw [List.getD,List.getElem?_eq_getElem h];exact List.getElem_mem h
 exact c0x this
theorem c5j (bus:Bool) (g:GX) (ks:List Nat) (hp:0 < ks.length):GateOk ks (a0j bus g ks):=by
 have a:=Nat.mod_lt g.i0 hp
 have b:=Nat.mod_lt g.i1 hp
 have d:=Nat.mod_lt g.i2 hp
 unfold a0j
 dsimp only
 generalize (if bus = true then g.kind % 13 else g.kind % 9) = kind
 split
 ·rename_i h6
  obtain ⟨e1,e2⟩:=d4o h6
  split
  ·exact ⟨by dsimp only;omega,by dsimp only;omega,by simp [e1],by simp [e2],by simp [a,b,d],by dsimp only;omega,⟨rfl,rfl⟩⟩
  ·exact ⟨by dsimp only;omega,by dsimp only;omega,by simp [e1],by simp [e2],by simp [a,b],by dsimp only;omega,⟨rfl,rfl⟩⟩
 split
 ·exact ⟨by dsimp only;omega,by dsimp only;omega,by simp [a1v],by simp [a1i],by simp [a],by simp,⟨rfl,rfl⟩⟩
 split
 ·exact ⟨by dsimp only;omega,by dsimp only;omega,by simp [a1v],by simp [a1i],by simp [a,b,d],by simp,⟨rfl,rfl⟩⟩
 split
 ·exact ⟨by dsimp only;omega,by dsimp only;omega,by simp [a1v],by simp [a1i],by simp [a,b],by simp,⟨rfl,rfl⟩⟩
 split
 ·rename_i h
  have t0:=b99 (Nat.mod_lt g.i0 h.2)
  split
  ·have t1:=b99 (Nat.mod_lt (g.i0 % (a83 ks).length + 1) h.2)
   refine ⟨by dsimp only;omega,by dsimp only;omega,by simp [a1v],by simp [a1i],?_,?_,⟨rfl,rfl⟩⟩
   ·intro m hm;simp only [List.mem_cons,List.not_mem_nil,or_false] at hm;rcases hm with rfl|rfl;exact t0.1;exact t1.1
   ·intro _ m hm;simp only [List.mem_cons,List.not_mem_nil,or_false] at hm;rcases hm with rfl|rfl;exact t0.2;exact t1.2
  ·refine ⟨by dsimp only;omega,by dsimp only;omega,by simp [a1v],by simp [a1i],?_,?_,⟨rfl,rfl⟩⟩
   ·intro m hm;simp only [List.mem_cons,List.not_mem_nil,or_false] at hm;subst hm;exact t0.1
   ·intro _ m hm;simp only [List.mem_cons,List.not_mem_nil,or_false] at hm;subst hm;exact t0.2
 split
 ·have:g.i0 % 2 = 0 ∨ g.i0 % 2 = 1:=by omega
  rcases this with h|h<;>rw [h]<;>exact ⟨by dsimp only;omega,by dsimp only;omega,by simp [a1v],by simp [a1i],by simp,by simp,⟨rfl,rfl⟩⟩
 ·exact ⟨by dsimp only;omega,by dsimp only;omega,by simp [a1v],by simp [a1i],by simp [a],by simp,⟨rfl,rfl⟩⟩
theorem d1o (bus:Bool):∀ (l:List GX) (ks:List Nat) (i:Nat) (x:Nd),(gN bus ks l)[i]? = some x → ∃ g,x = a0j bus g (ks ++ ((gN bus ks l).take i).map Nd.kind)
 | [],ks,i,x,h=>by simp [gN] at h
 | g :: l,ks,0,x,h=>by simp only [gN,List.getElem?_cons_zero,Option.some.injEq] at h;exact ⟨g,by rw [← h];simp⟩
 | g :: l,ks,i + 1,x,h=>by
  simp only [gN,List.getElem?_cons_succ] at h
  obtain ⟨g',hg⟩:=d1o bus l _ i x h
  exact ⟨g',by rw [hg];simp [gN]⟩
theorem CX.dn_len (x:CX):x.dn.length = x.d:=by
 have:x.d < 3:=Nat.mod_lt _ (by omega)
 unfold CX.dn;rw [List.length_map,List.length_take];simp;omega
theorem CX.nodes_len (x:CX):x.nodes.length = x.n:=by
 unfold CX.nodes CX.n
 rw [List.length_append,List.length_append,List.length_replicate,x.dn_len,a4g]
theorem CX.dn_kind (x:CX):x.dn.map Nd.kind = List.replicate x.d 14:=by
 have:x.d = 0 ∨ x.d = 1 ∨ x.d = 2:=by have:x.d < 3:=Nat.mod_lt _ (by omega);omega
 unfold CX.dn
 rcases this with h|h|h<;>rw [h]<;>rfl
theorem CX.base_len (x:CX):x.base.length = x.k + x.d:=by unfold CX.base;simp
theorem CX.kinds (x:CX):x.nodes.map Nd.kind = x.base ++ (gN x.bus x.base x.gs).map Nd.kind:=by
 unfold CX.nodes CX.base
 rw [List.map_append,List.map_append,List.map_replicate,x.dn_kind]
 rfl
theorem CX.node_cases (x:CX) {i:Nat} {nd:Nd} (h:x.nodes[i]? = some nd):nd = a8j ∨ (∃ v,nd = a3g (v % x.n)) ∨ GateOk ((x.nodes.map Nd.kind).take i) nd:=by
 unfold CX.nodes at h
 by_cases h1:i < x.k
 ·rw [List.append_assoc,List.getElem?_append_left (by simpa using h1),List.getElem?_replicate,if_pos h1] at h
  exact .inl (Option.some.inj h).symm
 rw [List.append_assoc,List.getElem?_append_right (by simpa using h1),List.length_replicate] at h
 by_cases h2:i - x.k < x.d
 ·rw [List.getElem?_append_left (by rw [x.dn_len];exact h2)] at h
  unfold CX.dn at h
  rw [List.getElem?_map] at h
  cases hv:([x.d0,x.d1].take x.d)[i - x.k]? with
  | none=>rw [hv] at h;cases h
  | some v=>rw [hv] at h;exact .inr (.inl ⟨v,(Option.some.inj h).symm⟩)
 ·rw [List.getElem?_append_right (by rw [x.dn_len];omega),x.dn_len] at h
  obtain ⟨g,hg⟩:=d1o _ _ _ _ _ h
  refine .inr (.inr ?_)
  have e:(x.nodes.map Nd.kind).take i = x.base ++ ((gN x.bus x.base x.gs).take (i - x.k - x.d)).map Nd.kind:=by
   rw [x.kinds,List.take_append,List.take_of_length_le (by rw [x.base_len];omega),x.base_len,List.map_take]
   congr 2;omega
  rw [e,hg]
  exact c5j _ _ _ (by
   rw [List.length_append,x.base_len];have:0 < x.k:=by unfold CX.k;omega
   omega)
theorem CX.wf (x:CX):x.cir.wf:=by
 have hn:=x.nodes_len
 have hk:x.k ≤ 4 ∧ 0 < x.k:=by unfold CX.k;omega
 have hd:x.d < 3:=Nat.mod_lt _ (by omega)
 have hg:x.gs.length ≤ 8:=by unfold CX.gs;rw [List.length_take];omega
 have hnn:x.n = x.k + x.d + x.gs.length:=rfl
 have key:∀ nd ∈ x.nodes,∃ i,x.nodes[i]? = some nd ∧ i < x.n:=by
  intro nd h
  obtain ⟨i,hi⟩:=List.mem_iff_getElem?.1 h
  exact ⟨i,hi,by rw [← hn];exact (List.getElem?_eq_some_iff.1 hi).1⟩
 have hl:∀ i,i < x.n → ((x.nodes.map Nd.kind).take i).length = i:=fun i hi=>by rw [List.length_take,List.length_map,hn];omega
 have hsrc:∀ nd ∈ x.nodes,nd = a8j ∨ (∃ v,nd = a3g (v % x.n)) ∨ ∃ i,i < x.n ∧ GateOk ((x.nodes.map Nd.kind).take i) nd:=by
  intro nd h
  obtain ⟨i,hi,hlt⟩:=key nd h
  rcases x.node_cases hi with h|h|h
  ·exact .inl h
  ·exact .inr (.inl h)
  ·exact .inr (.inr ⟨i,hlt,h⟩)
 refine ⟨by show 0 < x.nodes.length;omega,by show x.nodes.length ≤ 14;omega,by show x.names = _;rw [show x.cir.nodes = x.nodes from rfl,hn];rfl,?_,?_,?_,?_,?_,?_,?_,?_,?_⟩
 ·intro nd h
  rcases hsrc nd h with rfl|⟨v,rfl⟩|⟨i,hi,h⟩
  ·decide
  ·exact Nat.le_refl 14
  ·have:=h.k13;omega
 ·intro nd h
  rcases hsrc nd h with rfl|⟨v,rfl⟩|⟨i,hi,h⟩
  ·decide
  ·exact Nat.le_refl 1
  ·exact h.lo
 ·intro nd h
  rcases hsrc nd h with rfl|⟨v,rfl⟩|⟨i,hi,h⟩
  ·decide
  ·exact Nat.le_refl 1
  ·exact h.hi
 ·intro nd h m hm
  show m < x.nodes.length
  rw [hn]
  rcases hsrc nd h with rfl|⟨v,rfl⟩|⟨i,hi,h⟩
  ·simp [a8j] at hm
  ·simp only [a3g,List.mem_cons,List.not_mem_nil,or_false] at hm;subst hm;exact Nat.mod_lt _ (by omega)
  ·have:=h.ins m hm;rw [hl i hi] at this;omega
 ·intro nd h h13 m hm
  rcases hsrc nd h with rfl|⟨v,rfl⟩|⟨i,hi,h⟩
  ·simp [a8j] at hm
  ·simp [a3g] at h13
  ·have h1:=h.bus h13 m hm
   have h2:=h.ins m hm
   rw [hl i hi] at h2
   rw [List.getElem?_take,if_pos h2,List.getElem?_map] at h1
   show a1d x.nodes m = 12
   unfold a1d
   rw [h1];rfl
 ·intro nd h
  rcases hsrc nd h with rfl|⟨v,rfl⟩|⟨i,hi,h⟩
  ·exact ⟨rfl,rfl⟩
  ·exact ⟨rfl,rfl⟩
  ·exact h.mem
 ·intro i nd h hc m hm
  have hlt:i < x.n:=by rw [← hn];exact (List.getElem?_eq_some_iff.1 h).1
  rcases x.node_cases h with rfl|⟨v,rfl⟩|h
  ·simp [a8j] at hm
  ·simp [a3g,a1r] at hc
  ·have:=h.ins m hm;rw [hl i hlt] at this;exact this
 ·intro o ho
  show o < x.nodes.length
  rw [hn]
  have ho:o ∈ x.outN:=ho
  unfold CX.outN at ho
  simp only [List.mem_append,List.mem_map,List.mem_cons,List.not_mem_nil,or_false] at ho
  rcases ho with ⟨a,_,rfl⟩|rfl
  ·exact Nat.mod_lt _ (by omega)
  ·omega
 ·show x.outN.length ≤ 4
  unfold CX.outN;simp;omega
end Go.Pc
/- PcFan: which pins read a net. Plain. -/
namespace Go.Pc
open Go.Ax
def a7d (l:Nat × Nat):List AV:=[.int .i64 l.1,.int .i64 l.2]
def cnt (L:List (Nat × Nat)) (a:Nat):Nat:=(L.map (·.1)).count a
structure FoOk (nodes:List Nd) (i k:Nat) (fo:List (List (Nat × Nat))):Prop where
 len:fo.length = nodes.length
 num:∀ (j:Nat) (L:List (Nat × Nat)),fo[j]? = some L → ∀ a,cnt L a = if a < i then (a2s nodes a).count j else if a = i then ((a2s nodes i).take k).count j else 0
theorem FoOk.zero (nodes:List Nd):FoOk nodes 0 0 (List.replicate nodes.length []):=by
 refine ⟨by simp,fun j L h a=>?_⟩
 rw [List.getElem?_replicate] at h
 split at h
 ·cases h;simp [Pc.cnt]
 ·cases h
theorem FoOk.step {nodes:List Nd} {i k m:Nat} {fo:List (List (Nat × Nat))} {L:List (Nat × Nat)} (h:FoOk nodes i k fo) (hm:(a2s nodes i)[k]? = some m) (hL:fo[m]? = some L):FoOk nodes i (k + 1) (fo.set m (L ++ [(i,k)])):=by
 refine ⟨by rw [List.length_set,h.len],fun j L' hj a=>?_⟩
 have ht:=a0z hm
 rw [List.getElem?_set] at hj
 have hml:m < fo.length:=(List.getElem?_eq_some_iff.1 hL).1
 by_cases hmj:m = j
 ·subst hmj
  simp only [if_true,hml,Option.some.injEq] at hj
  subst hj
  have:=h.num m L hL a
  have e:Pc.cnt (L ++ [(i,k)]) a = Pc.cnt L a + if i = a then 1 else 0:=by
   unfold Pc.cnt
   rw [List.map_append,List.count_append]
   by_cases hia:i = a
   ·subst hia;simp
   ·simp [hia,List.count_cons]
  rw [e,this,ht]
  by_cases h1:a < i
  ·simp [h1];omega
  ·by_cases h2:a = i
   ·subst h2;simp
   ·simp [h1,h2];omega
 ·rw [if_neg hmj] at hj
  have:=h.num j L' hj a
  rw [this,ht]
  by_cases h1:a < i
  ·simp [h1]
  ·by_cases h2:a = i
   ·subst h2
    simp [List.count_append,List.count_cons,hmj]
   ·simp [h1,h2]
theorem FoOk.next {nodes:List Nd} {i k:Nat} {fo:List (List (Nat × Nat))} (h:FoOk nodes i k fo) (hk:k = (a2s nodes i).length):FoOk nodes (i + 1) 0 fo:=by
 refine ⟨h.len,fun j L hj a=>?_⟩
 rw [h.num j L hj a]
 subst hk
 rw [List.take_length]
 by_cases h1:a < i
 ·simp [h1,show a < i + 1 by omega]
 ·by_cases h2:a = i
  ·subst h2;simp
  ·simp [h1,h2,show ¬ a < i + 1 by omega]
theorem a26 {nodes:List Nd} {i:Nat} {x:Nd} (h:nodes[i]? = some x):a2s nodes i = x.ins:=by simp [a2s,h]
theorem c4w (n:Nat):∀ (L:List (Nat × Nat)),(∀ l ∈ L,l.1 < n) → L.length = ((List.range n).map fun a=>cnt L a).sum
 | [],_=>by
  have:∀ l:List Nat,(l.map fun a=>cnt [] a).sum = 0:=by intro l;induction l with|nil=>rfl|cons a l ih=>rw [List.map_cons,List.sum_cons,ih];rfl
  rw [this];rfl
 | x :: L,h=>by
  have ih:=c4w n L (fun l hl=>h l (by simp [hl]))
  have hx:=h x (by simp)
  have e:∀ a,cnt (x :: L) a = cnt L a + if x.1 = a then 1 else 0:=fun a=>by
   unfold cnt;rw [List.map_cons,List.count_cons];simp [beq_iff_eq]
  have s:∀ (l:List Nat),l.Nodup → (l.map fun a=>cnt (x :: L) a).sum = (l.map fun a=>cnt L a).sum + if x.1 ∈ l then 1 else 0:=by
   intro l
   induction l with
   | nil=>intro _;rfl
   | cons a l ih2=>
    intro hn
    rw [List.nodup_cons] at hn
    simp only [List.map_cons,List.sum_cons,e a,ih2 hn.2,List.mem_cons]
    by_cases h1:x.1 = a
    ·subst h1;simp [hn.1];omega
    ·simp [h1];omega
  rw [s _ List.nodup_range,if_pos (by simpa using hx),List.length_cons,ih]
theorem FoOk.node {nodes:List Nd} {i k j:Nat} {fo:List (List (Nat × Nat))} {L:List (Nat × Nat)} (h:FoOk nodes i k fo) (hL:fo[j]? = some L) (hi:i ≤ nodes.length):∀ l ∈ L,l.1 < nodes.length:=by
 intro l hl
 have hc:=h.num j L hL l.1
 have hp:0 < cnt L l.1:=by unfold cnt;exact List.count_pos_iff.2 (List.mem_map.2 ⟨l,hl,rfl⟩)
 by_cases h1:l.1 < i
 ·omega
 ·rw [if_neg h1] at hc
  by_cases h2:l.1 = i
  ·rw [if_pos h2] at hc
   cases hx:nodes[i]? with
   | none=>simp [a2s,hx] at hc;omega
   | some x=>have:=(List.getElem?_eq_some_iff.1 hx).1;omega
  ·rw [if_neg h2] at hc;omega
theorem FoOk.total {nodes:List Nd} {i k j:Nat} {fo:List (List (Nat × Nat))} {L:List (Nat × Nat)} (h:FoOk nodes i k fo) (hL:fo[j]? = some L) (hn:nodes.length ≤ 14) (hx:∀ y ∈ nodes,y.ins.length ≤ 16) (hi:i ≤ nodes.length:=by omega):L.length ≤ 224:=by
 have hb:∀ a,cnt L a ≤ 16:=by
  intro a
  have hins:(a2s nodes a).length ≤ 16:=by
   unfold a2s
   cases hx':nodes[a]? with
   | none=>simp
   | some x=>exact hx x (List.mem_of_getElem? hx')
  rw [h.num j L hL a]
  split
  ·exact Nat.le_trans List.count_le_length hins
  split
  ·rename_i e;subst e
   refine Nat.le_trans List.count_le_length ?_
   rw [List.length_take];omega
  ·omega
 rw [c4w nodes.length L (h.node hL hi)]
 have s:∀ l:List Nat,(l.map fun a=>cnt L a).sum ≤ 16 * l.length:=by
  intro l
  induction l with
  | nil=>simp
  | cons a l ih=>have:=hb a;simp only [List.map_cons,List.sum_cons,List.length_cons];omega
 have:=s (List.range nodes.length)
 rw [List.length_range] at this
 omega
theorem Cir.wf.insl {c:Cir} (h:c.wf) {x:Nd} (hx:x ∈ c.nodes):x.ins.length ≤ 16:=by
 have k14:=h.kind x hx
 have hhi:=h.hi x hx
 have:a1i x.kind ≤ 16:=by
  have hk:x.kind = 0 ∨ x.kind = 1 ∨ x.kind = 2 ∨ x.kind = 3 ∨ x.kind = 4 ∨ x.kind = 5 ∨ x.kind = 6 ∨ x.kind = 7 ∨ x.kind = 8 ∨ x.kind = 9 ∨ x.kind = 10 ∨ x.kind = 11 ∨ x.kind = 12 ∨ x.kind = 13 ∨ x.kind = 14:=by omega
  rcases hk with e|e|e|e|e|e|e|e|e|e|e|e|e|e|e<;>rw [e]<;>decide
 omega
end Go.Pc
/- PcKahn: the order in which nodes become ready. Plain. -/
namespace Go.Pc
open Go.Ax
def b5u (nodes:List Nd) (ready:List Nat) (done a:Nat):Nat:=((a2s nodes a).filter fun m=>decide (m ∉ ready.take done)).length
structure Kahn (nodes:List Nd) (left ready:List Nat) (done:Nat) (L:List (Nat × Nat)):Prop where
 ll:left.length = nodes.length
 rn:∀ r ∈ ready,r < nodes.length
 nd:ready.Nodup
 dle:done ≤ ready.length
 eq:∀ a,a < nodes.length → a1r (a1d nodes a) = true → left.getD a 0 + cnt L a = b5u nodes ready done a
 nc:∀ a,a < nodes.length → a1r (a1d nodes a) = false → left.getD a 0 = 0
 zero:∀ a,a < nodes.length → (a ∈ ready ↔ left.getD a 0 = 0)
def a9h (nodes:List Nd) (a:Nat):Nat:=if a1r (a1d nodes a) then (a2s nodes a).length else 0
def a2r (nodes:List Nd) (i:Nat):List Nat:=(List.range nodes.length).map fun j=>if j < i then a9h nodes j else 0
def a38 (nodes:List Nd) (i:Nat):List Nat:=(List.range i).filter fun j=>decide (a9h nodes j = 0)
theorem b6c (nodes:List Nd) (i:Nat):a38 nodes (i + 1) = if a9h nodes i = 0 then a38 nodes i ++ [i] else a38 nodes i:=by
 unfold a38
 rw [List.range_succ,List.filter_append]
 by_cases h:a9h nodes i = 0<;>simp [h]
theorem c17 (nodes:List Nd) (i:Nat):(a38 nodes i).length ≤ i:=Nat.le_trans (List.length_filter_le _ _) (by simp)
theorem b8m (nodes:List Nd):a2r nodes 0 = List.replicate nodes.length 0:=by
 apply List.ext_getElem?
 intro j
 simp only [a2r,List.getElem?_map,List.getElem?_replicate,Nat.not_lt_zero,if_false]
 by_cases h:j < nodes.length
 ·rw [List.getElem?_range h];simp [h]
 ·rw [List.getElem?_eq_none (by simpa using h)];simp [h]
theorem a4z {nodes:List Nd} {i j:Nat} (h:j < nodes.length):(a2r nodes i)[j]? = some (if j < i then a9h nodes j else 0):=by
 simp [a2r,List.getElem?_range h]
theorem b1o {nodes:List Nd} {i:Nat} (h:i < nodes.length):(a2r nodes i).set i (a9h nodes i) = a2r nodes (i + 1):=by
 apply List.ext_getElem?
 intro j
 rw [List.getElem?_set]
 by_cases hj:j < nodes.length
 ·rw [a4z hj,a4z hj]
  by_cases hij:i = j
  ·subst hij;simp [a2r,h]
  ·by_cases h2:j < i
   ·simp [hij,h2,show j < i + 1 by omega]
   ·simp [hij,h2,show ¬ j < i + 1 by omega]
 ·have e:∀ i,(a2r nodes i)[j]? = none:=fun i=>List.getElem?_eq_none (by simp [a2r];omega)
  rw [e,e]
  have:i ≠ j:=by omega
  simp [this]
theorem b8n {nodes:List Nd} {i:Nat} (h:i < nodes.length) (h0:a9h nodes i = 0):a2r nodes i = a2r nodes (i + 1):=by
 rw [← b1o h]
 apply List.ext_getElem?
 intro j
 rw [List.getElem?_set]
 by_cases hij:i = j
 ·subst hij;rw [a4z h];simp [a2r,h,h0]
 ·simp [hij]
theorem Kahn.start (nodes:List Nd):Kahn nodes (a2r nodes nodes.length) (a38 nodes nodes.length) 0 []:=by
 have hg:∀ a,a < nodes.length → (a2r nodes nodes.length).getD a 0 = a9h nodes a:=by
  intro a ha
  rw [List.getD,a4z ha];simp [ha]
 refine ⟨by simp [a2r],?_,?_,Nat.zero_le _,?_,?_,?_⟩
 ·intro r hr
  unfold a38 at hr
  rw [List.mem_filter] at hr
  simpa using hr.1
 ·exact List.nodup_range.filter _
 ·intro a ha hc
  rw [hg a ha]
  have e:∀ l:List Nat,(l.filter fun m=>decide (m ∉ ([]:List Nat))) = l:=fun l=>List.filter_eq_self.2 (fun m _=>by simp)
  simp only [a9h,hc,if_true,b5u,cnt,List.map_nil,List.count_nil,List.take_zero,Nat.add_zero]
  exact (congrArg List.length (e _)).symm
 ·intro a ha hc
  rw [hg a ha];simp [a9h,hc]
 ·intro a ha
  rw [hg a ha]
  unfold a38
  rw [List.mem_filter]
  simp [ha]
section
variable {nodes:List Nd} {left ready:List Nat} {done:Nat} {L:List (Nat × Nat)}
theorem b5f (L:List (Nat × Nat)) (a p b:Nat):cnt (L ++ [(a,p)]) b = cnt L b + if a = b then 1 else 0:=by
 unfold cnt
 rw [List.map_append,List.count_append]
 by_cases hia:a = b
 ·subst hia;simp
 ·simp [hia,List.count_cons]
theorem Kahn.skip (h:Kahn nodes left ready done L) {a p:Nat} (hc:a1r (a1d nodes a) = false):Kahn nodes left ready done (L ++ [(a,p)]):=by
 refine ⟨h.ll,h.rn,h.nd,h.dle,?_,h.nc,h.zero⟩
 intro b hb hcb
 have:a ≠ b:=fun e=>by subst e;rw [hc] at hcb;cases hcb
 rw [b5f,if_neg this,Nat.add_zero]
 exact h.eq b hb hcb
theorem c8k {ready:List Nat} {done x a:Nat} (h:done ≤ ready.length):b5u nodes (ready ++ [x]) done a = b5u nodes ready done a:=by
 unfold b5u;rw [List.take_append_of_le_length h]
theorem Kahn.pos (h:Kahn nodes left ready done L) {a p:Nat} (ha:a < nodes.length) (hc:a1r (a1d nodes a) = true) (hcnt:cnt (L ++ [(a,p)]) a ≤ b5u nodes ready done a):0 < left.getD a 0:=by
 have:=h.eq a ha hc
 rw [b5f,if_pos rfl] at hcnt
 omega
theorem Kahn.dec (h:Kahn nodes left ready done L) {a p:Nat} (ha:a < nodes.length) (hc:a1r (a1d nodes a) = true) (hcnt:cnt (L ++ [(a,p)]) a ≤ b5u nodes ready done a) :
 Kahn nodes (left.set a (left.getD a 0 - 1)) (if left.getD a 0 - 1 = 0 then ready ++ [a] else ready) done (L ++ [(a,p)]):=by
 have hpos:=h.pos ha hc hcnt
 have hal:a < left.length:=by rw [h.ll];exact ha
 have hget:∀ b,(left.set a (left.getD a 0 - 1)).getD b 0 = if a = b then left.getD a 0 - 1 else left.getD b 0:=by
  intro b
  simp only [List.getD_eq_getElem?_getD,List.getElem?_set]
  by_cases hab:a = b
  ·subst hab;simp [hal]
  ·simp [hab]
 have hna:a ∉ ready:=fun hm=>by have:=(h.zero a ha).1 hm;omega
 have hpe:∀ b,b5u nodes (if left.getD a 0 - 1 = 0 then ready ++ [a] else ready) done b = b5u nodes ready done b:=by
  intro b;split
  ·exact c8k h.dle
  ·rfl
 refine ⟨by rw [List.length_set,h.ll],?_,?_,?_,?_,?_,?_⟩
 ·intro r hr
  split at hr
  ·simp only [List.mem_append,List.mem_singleton] at hr
   rcases hr with hr|rfl
   ·exact h.rn r hr
   ·exact ha
  ·exact h.rn r hr
 ·split
  ·rw [List.nodup_append]
   refine ⟨h.nd,by simp,?_⟩
   intro x hx y hy
   simp only [List.mem_singleton] at hy
   subst hy
   exact fun e=>hna (e ▸ hx)
  ·exact h.nd
 ·split
  ·have:=h.dle;simp;omega
  ·exact h.dle
 ·intro b hb hcb
  rw [hget,hpe,b5f]
  have:=h.eq b hb hcb
  by_cases hab:a = b
  ·subst hab;rw [if_pos rfl,if_pos rfl];omega
  ·rw [if_neg hab,if_neg hab,Nat.add_zero];exact this
 ·intro b hb hcb
  have:a ≠ b:=fun e=>by subst e;rw [hc] at hcb;cases hcb
  rw [hget,if_neg this]
  exact h.nc b hb hcb
 ·intro b hb
  rw [hget]
  by_cases hab:a = b
  ·subst hab
   rw [if_pos rfl]
   split
   ·rename_i e;exact ⟨fun _=>e,fun _=>by simp⟩
   ·rename_i e;exact ⟨fun hm=>absurd hm hna,fun e'=>absurd e' e⟩
  ·rw [if_neg hab]
   rw [← h.zero b hb]
   split
   ·simp [Ne.symm hab]
   ·rfl
theorem a5o (l:List Nat) (S:List Nat) (x:Nat) (hx:x ∉ S):(l.filter fun m=>decide (m ∉ S)).length = (l.filter fun m=>decide (m ∉ S ++ [x])).length + l.count x:=by
 induction l with
 | nil=>rfl
 | cons a l ih=>
  simp only [List.filter_cons,List.count_cons]
  by_cases hax:a = x
  ·subst hax
   simp [hx] at ih ⊢
   omega
  ·by_cases haS:a ∈ S
   ·simp [haS,hax] at ih ⊢;omega
   ·simp [haS,hax] at ih ⊢;omega
theorem Kahn.next (h:Kahn nodes left ready done L) {x:Nat} (hx:ready[done]? = some x) (hL:∀ a,a < nodes.length → cnt L a = (a2s nodes a).count x):Kahn nodes left ready (done + 1) []:=by
 have hdl:=(List.getElem?_eq_some_iff.1 hx).1
 have ht:=a0z hx
 have hnx:x ∉ ready.take done:=by
  intro hm
  obtain ⟨i,hi⟩:=List.mem_iff_getElem?.1 hm
  rw [List.getElem?_take] at hi
  split at hi
  case isFalse=>cases hi
  have:=(List.getElem?_inj (by omega) h.nd).1 (hi.trans hx.symm)
  omega
 refine ⟨h.ll,h.rn,h.nd,by omega,?_,h.nc,h.zero⟩
 intro a ha hc
 have:=h.eq a ha hc
 rw [hL a ha] at this
 unfold b5u at this ⊢
 rw [ht]
 rw [a5o _ _ x hnx] at this
 simp only [cnt,List.map_nil,List.count_nil]
 omega
theorem d3l {ready:List Nat} {done x a:Nat} (nd:ready.Nodup) (hx:ready[done]? = some x):(a2s nodes a).count x ≤ b5u nodes ready done a:=by
 have hdl:=(List.getElem?_eq_some_iff.1 hx).1
 have hnx:x ∉ ready.take done:=by
  intro hm
  obtain ⟨i,hi⟩:=List.mem_iff_getElem?.1 hm
  rw [List.getElem?_take] at hi
  split at hi
  case isFalse=>cases hi
  have:=(List.getElem?_inj (by omega) nd).1 (hi.trans hx.symm)
  omega
 unfold b5u
 rw [a5o _ _ x hnx]
 omega
theorem Kahn.all (h:Kahn nodes left ready ready.length []) (hac:∀ (i:Nat) (x:Nd),nodes[i]? = some x → a1r x.kind = true → ∀ m ∈ x.ins,m < i):nodes.length ≤ ready.length:=by
 have key:∀ n a,a ≤ n → a < nodes.length → a ∈ ready:=by
  intro n
  induction n with
  | zero=>
   intro a han ha
   obtain rfl:a = 0:=by omega
   rw [h.zero 0 ha]
   cases hc:a1r (a1d nodes 0) with
   | false=>exact h.nc 0 ha hc
   | true=>
    obtain ⟨x,hx⟩:∃ x,nodes[0]? = some x:=⟨_,List.getElem?_eq_getElem ha⟩
    have he:=h.eq 0 ha hc
    have hk:a1d nodes 0 = x.kind:=by simp [a1d,hx]
    rw [hk] at hc
    have hi:a2s nodes 0 = []:=by
     simp only [a2s,hx,Option.map_some,Option.getD_some]
     cases hins:x.ins with
     | nil=>rfl
     | cons m r=>have:=hac 0 x hx hc m (by simp [hins]);omega
    have:b5u nodes ready ready.length 0 = 0:=by simp [b5u,hi]
    omega
  | succ n ih=>
   intro a han ha
   rw [h.zero a ha]
   cases hc:a1r (a1d nodes a) with
   | false=>exact h.nc a ha hc
   | true=>
    obtain ⟨x,hx⟩:∃ x,nodes[a]? = some x:=⟨_,List.getElem?_eq_getElem ha⟩
    have he:=h.eq a ha hc
    have hk:a1d nodes a = x.kind:=by simp [a1d,hx]
    rw [hk] at hc
    have hi:a2s nodes a = x.ins:=a26 hx
    have:b5u nodes ready ready.length a = 0:=by
     unfold b5u
     rw [hi,List.take_length,List.length_eq_zero_iff,List.filter_eq_nil_iff]
     intro m hm
     have h1:=hac a x hx hc m hm
     have h2:=ih m (by omega) (by omega)
     simp [h2]
    omega
 have:=b1n (l:=List.range nodes.length) (T:=ready) List.nodup_range (fun a ha=>key a a (Nat.le_refl _) (by simpa using ha))
 simpa using this
theorem Kahn.bound (h:Kahn nodes left ready done L):ready.length ≤ nodes.length:=by
 have:=b1n h.nd (T:=List.range nodes.length) (fun a ha=>by simpa using h.rn a ha)
 simpa using this
end
end Go.Pc
/- PcPerm: exchanging neighbours. Plain. -/
namespace Go.Pc
theorem c37 {l:List Nat} {j x y:Nat} (hj:l[j + 1]? = some x) (hi:l[j]? = some y):((l.set (j + 1) y).set j x).Perm l:=by
 induction l generalizing j with
 | nil=>simp at hj
 | cons a l ih=>
  cases j with
  | zero=>
   cases l with
   | nil=>simp at hj
   | cons b l=>
    simp only [List.getElem?_cons_succ,List.getElem?_cons_zero,Option.some.injEq] at hj hi
    subst hj;subst hi
    exact List.Perm.swap ..
  | succ j=>
   simp only [List.getElem?_cons_succ] at hj hi
   simp only [List.set_cons_succ]
   exact (ih hj hi).cons a
def d1v (a b:Nat):Int:=if a < b then -1 else if b < a then 1 else 0
end Go.Pc
/- PcReach: which nets a net depends on; faults that are valid. Plain. -/
namespace Go.Pc
open Go.Ax
inductive DepOn (nodes:List Nd):Nat → Nat → Prop
 | refl (a:Nat):DepOn nodes a a
 | step {a m b:Nat} (hk:a1d nodes a ≠ 14) (hm:m ∈ a2s nodes a) (h:DepOn nodes m b):DepOn nodes a b
theorem DepOn.cases {nodes:List Nd} {a b:Nat} (h:DepOn nodes a b):a = b ∨ (a1d nodes a ≠ 14 ∧ ∃ m,m ∈ a2s nodes a ∧ DepOn nodes m b):=by
 cases h with
 | refl=>exact .inl rfl
 | step hk hm h=>exact .inr ⟨hk,_,hm,h⟩
theorem DepOn.not_dff {nodes:List Nd} {a b:Nat} (hab:a ≠ b) (hk:a1d nodes a = 14):¬ DepOn nodes a b:=fun h=>by
 rcases h.cases with e|⟨h1,_⟩
 ·exact hab e
 ·exact h1 hk
theorem DepOn.snoc {nodes:List Nd} {a b m:Nat} (h:DepOn nodes a b) (hk:a1d nodes b ≠ 14) (hm:m ∈ a2s nodes b):DepOn nodes a m:=by
 induction h with
 | refl a=>exact .step hk hm (.refl _)
 | step hk' hm' _ ih=>exact .step hk' hm' (ih hk hm)
theorem Cir.wf.comb_of {c:Cir} (h:c.wf) {x:Nd} (hx:x ∈ c.nodes) (hp:0 < x.ins.length) (h14:x.kind ≠ 14):a1r x.kind = true:=by
 have h1:=h.kind x hx
 have h2:=h.hi x hx
 have h3:x.kind ≠ 0:=by
  intro e;rw [e] at h2
  have:a1i 0 = 0:=rfl
  omega
 simp [a1r];omega
structure FltOk (nodes:List Nd) (f:Flt):Prop where
 model:f.model = 0 ∨ f.model = 2 ∨ f.model = 3
 node:f.node < nodes.length
 pin:-1 ≤ f.pin ∧ f.pin < (a2s nodes f.node).length
 value:f.value ≤ 1
 other:f.other < nodes.length
 stuck:f.model = 0 → f.other = 0
 bridge:f.model ≠ 0 → f.pin = -1 ∧ f.node ≠ f.other ∧ (f.model = 2 → f.node ≤ f.other) ∧ (f.model = 3 → f.value = 0) ∧ a1d nodes f.node ≠ 12 ∧ a1d nodes f.other ≠ 12 ∧ ¬ DepOn nodes f.node f.other ∧ ¬ DepOn nodes f.other f.node
end Go.Pc
/- PcRun: the simulation, step by step. Plain. -/
namespace Go.Pc
open Go.Ax
section
variable {α:Type} {A:Alg α} {nodes:List Nd} {h:Hk α}
theorem c46 {n:Nat} {nets:List α}:∀ {l:List Nat} {p i m:Nat},l[i]? = some m → (a6k A h n nets p l)[i]? = some (h.pin n (p + i) (nets.getD m A.z))
 | [],p,i,m,hm=>by simp at hm
 | a :: l,p,0,m,hm=>by simp at hm;subst hm;rfl
 | a :: l,p,i + 1,m,hm=>by
  simp only [List.getElem?_cons_succ] at hm
  simp only [a6k,List.getElem?_cons_succ,c46 (p:=p + 1) hm]
  rw [show p + 1 + i = p + (i + 1) by omega]
theorem c45 {n:Nat} {nets:List α}:∀ (l:List Nat) (p:Nat),(a6k A h n nets p l).length = l.length
 | [],_=>rfl
 | a :: l,p=>by simp [a6k,c45 l]
theorem a9m {nets:List α} {n:Nat}:(a1q A nodes h nets n).length = (a2s nodes n).length:=c45 _ _
theorem c18 {nets:List α} {n i m:Nat} {v:α} (hm:(a2s nodes n)[i]? = some m) (hv:nets[m]? = some v):(a1q A nodes h nets n).take (i + 1) = (a1q A nodes h nets n).take i ++ [h.pin n i v]:=by
 have:=c46 (A:=A) (h:=h) (n:=n) (nets:=nets) (p:=0) hm
 rw [Nat.zero_add,List.getD,hv] at this
 exact a0z this
theorem b3q:∀ {is:List Nat} {vs:List α} {nets:List α} {a:Nat} {v:α},is.length = vs.length → a5r nets (is ++ [a]) (vs ++ [v]) = (a5r nets is vs).set a v
 | [],[],nets,a,v,_=>rfl
 | [],_ :: _,_,_,_,h=>by simp at h
 | _ :: _,[],_,_,_,h=>by simp at h
 | i :: is,w :: vs,nets,a,v,h=>by simp only [List.cons_append,a5r];exact b3q (by simpa using h)
theorem a7c:∀ (is:List Nat) (vs:List α) (nets:List α),(a5r nets is vs).length = nets.length
 | [],vs,nets=>by cases vs<;>rfl
 | i :: is,[],nets=>rfl
 | i :: is,v :: vs,nets=>by simp [a5r,a7c is vs]
theorem b3p {is:List Nat} {vs nets:List α} {i a:Nat} {v:α} (h1:is[i]? = some a) (h2:vs[i]? = some v):a5r nets (is.take (i + 1)) (vs.take (i + 1)) = (a5r nets (is.take i) (vs.take i)).set a v:=by
 rw [a0z h1,a0z h2]
 have l1:=(List.getElem?_eq_some_iff.1 h1).1
 have l2:=(List.getElem?_eq_some_iff.1 h2).1
 exact b3q (by rw [List.length_take,List.length_take];omega)
theorem c3b (nets:List α) (n:Nat):(stepG A nodes h nets n).length = nets.length:=by unfold stepG;simp
theorem c0b (l:List Nat) (nets:List α):(l.foldl (stepG A nodes h) nets).length = nets.length:=by
 induction l generalizing nets with
 | nil=>rfl
 | cons a l ih=>rw [List.foldl_cons,ih,c3b]
theorem c4l (ord ins sts:List Nat) (vi vs:List α):(c1i A nodes h ord ins sts vi vs).length = nodes.length:=by
 unfold c1i;rw [c0b,a7c,a7c];simp
theorem c5q {l:List Nat} {nets:List α} {i n:Nat} (hn:l[i]? = some n):(l.take (i + 1)).foldl (stepG A nodes h) nets = stepG A nodes h ((l.take i).foldl (stepG A nodes h) nets) n:=by
 rw [a0z hn,List.foldl_append];rfl
end
end Go.Pc
/- PcLev: levels of nodes; orders in which a3f node stands behind what it c8g. Plain. -/
namespace Go.Pc
open Go.Ax
structure Lev (nodes:List Nd) (lv ready:List Nat) (done:Nat) (L:List (Nat × Nat)):Prop where
 old:∀ a,a < nodes.length → a1r (a1d nodes a) = true → ∀ m ∈ a2s nodes a,m ∈ ready.take done → lv.getD m 0 < lv.getD a 0
 now:∀ l ∈ L,a1r (a1d nodes l.1) = true → ∀ x,ready[done]? = some x → lv.getD x 0 < lv.getD l.1 0
theorem Lev.start (nodes:List Nd) (lv ready:List Nat):Lev nodes lv ready 0 []:=⟨fun a _ _ m _ hm=>by simp at hm,fun l hl=>by simp at hl⟩
section
variable {nodes:List Nd} {lv left ready:List Nat} {done:Nat} {L:List (Nat × Nat)}
theorem Lev.skip (h:Lev nodes lv ready done L) {a p:Nat} (hc:a1r (a1d nodes a) = false):Lev nodes lv ready done (L ++ [(a,p)]):=by
 refine ⟨h.old,fun l hl hcl=>?_⟩
 rcases List.mem_append.1 hl with hl|hl
 ·exact h.now l hl hcl
 ·rw [List.mem_singleton.1 hl] at hcl;rw [hc] at hcl;cases hcl
theorem b0v (lv:List Nat) (a v b:Nat) (ha:a < lv.length):(lv.set a v).getD b 0 = if a = b then v else lv.getD b 0:=by
 simp only [List.getD_eq_getElem?_getD,List.getElem?_set]
 by_cases hab:a = b
 ·subst hab;simp [ha]
 ·simp [hab]
theorem Lev.dec (h:Lev nodes lv ready done L) {a p x va vx:Nat} (hx:ready[done]? = some x) (hna:a ∉ ready) (hva:lv[a]? = some va) (hvx:lv[x]? = some vx) {ready':List Nat} (hr:ready' = ready ∨ ready' = ready ++ [a]) :
 Lev nodes (lv.set a (max va (vx + 1))) ready' done (L ++ [(a,p)]):=by
 have hal:=(List.getElem?_eq_some_iff.1 hva).1
 have hdl:=(List.getElem?_eq_some_iff.1 hx).1
 have hxr:x ∈ ready:=List.mem_of_getElem? hx
 have hax:a ≠ x:=fun e=>hna (e ▸ hxr)
 have ea:lv.getD a 0 = va:=by rw [List.getD,hva];rfl
 have ex:lv.getD x 0 = vx:=by rw [List.getD,hvx];rfl
 have ht:ready'.take done = ready.take done:=by
  rcases hr with rfl|rfl
  ·rfl
  ·exact List.take_append_of_le_length (by omega)
 have hx':ready'[done]? = some x:=by
  rcases hr with rfl|rfl
  ·exact hx
  ·rw [List.getElem?_append_left hdl];exact hx
 have up:∀ b,lv.getD b 0 ≤ (lv.set a (max va (vx + 1))).getD b 0:=by
  intro b;rw [b0v _ _ _ _ hal];split
  ·rename_i e;subst e;rw [ea];exact Nat.le_max_left _ _
  ·exact Nat.le_refl _
 refine ⟨?_,?_⟩
 ·intro b hb hcb m hm hmr
  rw [ht] at hmr
  have hma:a ≠ m:=fun e=>hna (e ▸ List.mem_of_mem_take hmr)
  rw [b0v _ _ _ m hal,if_neg hma]
  exact Nat.lt_of_lt_of_le (h.old b hb hcb m hm hmr) (up b)
 ·intro l hl hcl y hy
  rw [hx'] at hy;cases hy
  rw [b0v _ _ _ x hal,if_neg hax]
  rcases List.mem_append.1 hl with hl|hl
  ·exact Nat.lt_of_lt_of_le (h.now l hl hcl x hx) (up _)
  ·rw [List.mem_singleton.1 hl,b0v _ _ _ _ hal,if_pos rfl,ex]
   exact Nat.lt_of_lt_of_le (Nat.lt_succ_self _) (Nat.le_max_right _ _)
theorem Lev.next (h:Lev nodes lv ready done L) {x:Nat} (hx:ready[done]? = some x) (hL:∀ a,a < nodes.length → cnt L a = (a2s nodes a).count x):Lev nodes lv ready (done + 1) []:=by
 refine ⟨?_,fun l hl=>by simp at hl⟩
 intro a ha hc m hm hmr
 rw [a0z hx] at hmr
 rcases List.mem_append.1 hmr with hmr|hmr
 ·exact h.old a ha hc m hm hmr
 ·rw [List.mem_singleton.1 hmr] at hm ⊢
  have h1:=hL a ha
  have h2:0 < (a2s nodes a).count x:=List.count_pos_iff.2 hm
  rw [← h1] at h2
  unfold Pc.cnt at h2
  obtain ⟨l,hl,rfl⟩:=List.mem_map.1 (List.count_pos_iff.1 h2)
  exact h.now l hl hc x hx
def Rises (nodes:List Nd) (lv:List Nat):Prop:=∀ a,a < nodes.length → a1r (a1d nodes a) = true → ∀ m ∈ a2s nodes a,m < nodes.length → lv.getD m 0 < lv.getD a 0
theorem Lev.all (h:Lev nodes lv ready ready.length []) (hk:Kahn nodes left ready ready.length []) (hall:nodes.length ≤ ready.length):Rises nodes lv:=by
 intro a ha hc m hm hmn
 refine h.old a ha hc m hm ?_
 rw [List.take_length]
 by_cases hmr:m ∈ ready
 ·exact hmr
 ·have hs:=b1n (l:=m :: ready) (T:=List.range nodes.length) (List.nodup_cons.2 ⟨hmr,hk.nd⟩) (fun b hb=>by
   rcases List.mem_cons.1 hb with rfl|hb
   ·simpa using hmn
   ·simpa using hk.rn b hb)
  simp at hs;omega
end
def e0x (nodes:List Nd) (ord:List Nat):Prop:=∀ (i n:Nat),ord[i]? = some n → a1r (a1d nodes n) = true → ∀ m ∈ a2s nodes n,m ∈ ord.take i
theorem Rises.topo {nodes:List Nd} {lv ord:List Nat} (h:Rises nodes lv) (hp:ord.Perm (List.range nodes.length)) (hs:ord.Pairwise fun x y=>lv.getD x 0 ≤ lv.getD y 0) (hin:∀ n,n < nodes.length → ∀ m ∈ a2s nodes n,m < nodes.length):e0x nodes ord:=by
 intro i n hi hc m hm
 have hn:n < nodes.length:=by have:=hp.mem_iff.1 (List.mem_of_getElem? hi);simpa using this
 have hmn:=hin n hn m hm
 obtain ⟨j,hj⟩:=List.mem_iff_getElem?.1 (hp.mem_iff.2 (List.mem_range.2 hmn))
 have hlt:=h n hn hc m hm hmn
 have hil:=(List.getElem?_eq_some_iff.1 hi).1
 have hjl:=(List.getElem?_eq_some_iff.1 hj).1
 by_cases hji:j < i
 ·exact List.mem_iff_getElem?.2 ⟨j,by rw [List.getElem?_take,if_pos hji];exact hj⟩
 ·exfalso
  by_cases hij:i = j
  ·subst hij;rw [hi] at hj;cases hj;omega
  ·have:=List.pairwise_iff_getElem.1 hs i j hil hjl (by omega)
   rw [(List.getElem?_eq_some_iff.1 hi).2,(List.getElem?_eq_some_iff.1 hj).2] at this
   omega
theorem Cir.wf.inAt {c:Cir} (h:c.wf):∀ n,n < c.nodes.length → ∀ m ∈ a2s c.nodes n,m < c.nodes.length:=by
 intro n hn m hm
 obtain ⟨x,hx⟩:∃ x,c.nodes[n]? = some x:=⟨_,List.getElem?_eq_getElem hn⟩
 rw [a26 hx] at hm
 exact h.ins x (List.mem_of_getElem? hx) m hm
/-! ### insertion -/
def SortJ (key:Nat → Nat) (d:List Nat) (i j:Nat):Prop:=∀ p q x y,p < q → q ≤ i → q ≠ j → d[p]? = some x → d[q]? = some y → key x ≤ key y
def SortI (key:Nat → Nat) (d:List Nat) (i:Nat):Prop:=∀ p q x y,p < q → q < i → d[p]? = some x → d[q]? = some y → key x ≤ key y
theorem SortI.start {key:Nat → Nat} {d:List Nat} {i:Nat} (h:SortI key d i):SortJ key d i i:=fun p q x y h1 h2 h3=>h p q x y h1 (by omega)
theorem SortI.one {key:Nat → Nat} {d:List Nat}:SortI key d 1:=fun p q x y h1 h2=>by omega
theorem SortJ.stop {key:Nat → Nat} {d:List Nat} {i j:Nat} (h:SortJ key d i j) (hj:j = 0 ∨ ∃ x y,d[j - 1]? = some x ∧ d[j]? = some y ∧ key x ≤ key y):SortI key d (i + 1):=by
 intro p q x y h1 h2 hx hy
 by_cases hq:q = j
 ·subst hq
  rcases hj with rfl|⟨x',y',h3,h4,h5⟩
  ·omega
  ·rw [hy] at h4;cases h4
   by_cases hp:p = q - 1
   ·subst hp;rw [hx] at h3;cases h3;exact h5
   ·exact Nat.le_trans (h p (q - 1) x x' (by omega) (by omega) (by omega) hx h3) h5
 ·exact h p q x y h1 (by omega) hq hx hy
theorem SortJ.swap {key:Nat → Nat} {d:List Nat} {i j:Nat} (h:SortJ key d i (j + 1)) (hji:j + 1 ≤ i) {x y:Nat} (hx:d[j]? = some x) (hy:d[j + 1]? = some y) (hlt:key y < key x):SortJ key ((d.set (j + 1) x).set j y) i j:=by
 have hjl:=(List.getElem?_eq_some_iff.1 hy).1
 have hg:∀ p,((d.set (j + 1) x).set j y)[p]? = if p = j then some y else if p = j + 1 then some x else d[p]?:=by
  intro p
  rw [List.getElem?_set,List.getElem?_set]
  simp only [List.length_set]
  by_cases h1:j = p
  ·subst h1;simp;omega
  ·by_cases h2:j + 1 = p
   ·subst h2;simp;omega
   ·simp [h1,h2,Ne.symm h1,Ne.symm h2]
 intro p q u v h1 h2 h3 hu hv
 rw [hg] at hu hv
 rw [if_neg h3] at hv
 by_cases hq:q = j + 1
 ·rw [if_pos hq] at hv;cases hv
  by_cases hp:p = j
  ·rw [if_pos hp] at hu;cases hu;omega
  ·rw [if_neg hp,if_neg (by omega)] at hu
   exact h p j u x (by omega) (by omega) (by omega) hu hx
 ·rw [if_neg hq] at hv
  by_cases hp:p = j
  ·rw [if_pos hp] at hu;cases hu
   exact h (j + 1) q y v (by omega) h2 (by omega) hy hv
  ·rw [if_neg hp] at hu
   by_cases hp2:p = j + 1
   ·rw [if_pos hp2] at hu;cases hu
    exact h j q x v (by omega) h2 (by omega) hx hv
   ·rw [if_neg hp2] at hu
    exact h p q u v h1 h2 (by omega) hu hv
theorem SortI.pairwise {key:Nat → Nat} {d:List Nat} (h:SortI key d d.length):d.Pairwise fun x y=>key x ≤ key y:=by
 rw [List.pairwise_iff_getElem]
 intro i j hi hj hij
 exact h i j _ _ hij hj (List.getElem?_eq_getElem hi) (List.getElem?_eq_getElem hj)
end Go.Pc
