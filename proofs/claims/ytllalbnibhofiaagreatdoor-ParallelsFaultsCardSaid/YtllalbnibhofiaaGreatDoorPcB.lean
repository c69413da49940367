/- PcWord: words of 64 values as d16 data. Plain definitions. -/
import Derived.Test.YtllalbnibhofiaaGreatDoorPcCir
import Derived.Test.YtllalbnibhofiaaGreatDoorAxE
set_option linter.unusedSimpArgs false
set_option linter.unusedVariables false
namespace Go.Pc
open Go.Ax
structure W where
 one:BitVec 64
 zero:BitVec 64
def W.enc (w:W):List AV:=[u64 w.one,u64 w.zero]
attribute [go_sem] W.enc
def a25 (v:Nat):Nat:=if 3 < v then 2 else v
def a1a (v:Nat):W:=match a25 v with
 | 0=>⟨0#64,BitVec.allOnes 64⟩
 | 1=>⟨BitVec.allOnes 64,0#64⟩
 | 2=>⟨0#64,0#64⟩
 | _=>⟨BitVec.allOnes 64,BitVec.allOnes 64⟩
def d04 (a b:W):W:=⟨a.one &&& b.one,a.zero ||| b.zero⟩
def wOr (a b:W):W:=⟨a.one ||| b.one,a.zero &&& b.zero⟩
def d03 (a b:W):W:=⟨a.one &&& b.zero ||| a.zero &&& b.one,a.one &&& b.one ||| a.zero &&& b.zero⟩
def a6e (f:W → W → W) (z:W) (l:List W):W:=l.foldl f z
def a54 (w:W):W:=⟨w.one &&& ~~~(w.one &&& w.zero),w.zero &&& ~~~(w.one &&& w.zero)⟩
def d3z (w:W):W:=⟨w.zero,w.one⟩
def d8v (s a b:W):W:=⟨s.zero &&& a.one ||| s.one &&& b.one ||| a.one &&& b.one,s.zero &&& a.zero ||| s.one &&& b.zero ||| a.zero &&& b.zero⟩
def d8u (e d:W):W:=⟨e.zero ||| e.one &&& d.one,e.zero ||| e.one &&& d.zero⟩
def d7w (s:BitVec 64 × BitVec 64 × BitVec 64) (w:W):BitVec 64 × BitVec 64 × BitVec 64:=(s.1 ||| (w.one &&& ~~~w.zero),s.2.1 ||| (w.zero &&& ~~~w.one),s.2.2 ||| ~~~(w.one ||| w.zero))
def c58 (l:List W):BitVec 64 × BitVec 64 × BitVec 64:=l.foldl d7w (BitVec.ofInt 64 0,BitVec.ofInt 64 0,BitVec.ofInt 64 0)
def e22 (s:BitVec 64 × BitVec 64 × BitVec 64):W:=⟨~~~s.2.1 &&& ~~~(s.2.2 ||| (s.1 &&& s.2.1)),~~~s.1 &&& ~~~(s.2.2 ||| (s.1 &&& s.2.1))⟩
def c5s (l:List W):W:=e22 (c58 l)
theorem b9t {l:List W} {i:Nat} {x:W} (h:l[i]? = some x):c58 (l.take (i + 1)) = d7w (c58 (l.take i)) x:=by
 unfold c58;rw [a0u h,List.foldl_append];rfl
theorem b0v {f:W → W → W} {z:W} {l:List W} {i:Nat} {x:W} (h:l[i]? = some x):a6e f z (l.take (i + 1)) = f (a6e f z (l.take i)) x:=by
 unfold a6e;rw [a0u h,List.foldl_append];rfl
theorem d7c (l:List W):FlatR (l.map W.enc):=FlatR.map fun _=>rfl
theorem a3u (l:List W):(l.map W.enc).flatMap a0l = []:=a0a (d7c l)
theorem a6f (π:Nat → Option Nat) (l:List W):(l.map W.enc).map (fun r=>r.map (ren π)) = l.map W.enc:=a0d π (d7c l)
attribute [go_sem] a3u a6f
def a1h (k:Nat):Nat:=[0,0,0,1,1,2,2,2,2,2,2,3,2,1,1,0].getD k 0
def a1i (k:Nat):Nat:=[0,0,0,1,1,16,16,16,16,16,16,3,2,16,1,0].getD k 0
def zW:W:=⟨0#64,0#64⟩
def a1t (k:Nat) (r:List W):W:=match k with
 | 1=>a1a 0
 | 2=>a1a 1
 | 3=>r.getD 0 zW
 | 4=>d3z (r.getD 0 zW)
 | 5=>a6e d04 (a1a 1) r
 | 6=>d3z (a6e d04 (a1a 1) r)
 | 7=>a6e wOr (a1a 0) r
 | 8=>d3z (a6e wOr (a1a 0) r)
 | 9=>a6e d03 (a1a 0) r
 | 10=>d3z (a6e d03 (a1a 0) r)
 | 11=>d8v (r.getD 0 zW) (r.getD 1 zW) (r.getD 2 zW)
 | 12=>d8u (r.getD 0 zW) (r.getD 1 zW)
 | _=>a1a 2
def a44 (k:Nat) (l:List W):W:=
 if l.length < a1h k ∨ a1i k < l.length then a1a 2
 else if k = 13 then c5s l
 else a1t k (l.map a54)
def rdW (l:List W) (i:Nat):List W:=(l.take i).map a54 ++ List.replicate (l.length - i) zW
theorem c24 (l:List W):rdW l 0 = List.replicate l.length zW:=by simp [rdW]
theorem c6p (l:List W):rdW l l.length = l.map a54:=by simp [rdW]
theorem c6o {l:List W} {i:Nat} (h:i < l.length):(rdW l i)[i]? = some zW:=by
 unfold rdW
 rw [List.getElem?_append_right (by simp;omega)]
 simp [List.getElem?_replicate]
 omega
theorem d61 {l:List W} {i:Nat} {x:W} (h:l[i]? = some x):(rdW l i).set i (a54 x) = rdW l (i + 1):=by
 have hi:=(List.getElem?_eq_some_iff.1 h).1
 unfold rdW
 rw [List.set_append_right _ _ (by simp;omega),a0u h,List.map_append,List.append_assoc]
 congr 1
 have e:l.length - i = (l.length - (i + 1)) + 1:=by omega
 rw [e,List.replicate_succ]
 have e2:i - ((l.take i).map a54).length = 0:=by simp;omega
 rw [e2]
 rfl
theorem c25 {l:List W} {i:Nat} {x:W} (h:l[i]? = some x):((rdW l i).map W.enc).set i [u64 (a54 x).one,u64 (a54 x).zero] = (rdW l (i + 1)).map W.enc:=by
 rw [← d61 h,List.map_set];rfl
def d7y (n:Nat):BitVec 64:=BitVec.ofInt 64 1 <<< n
def a6t (w:W) (n v:Nat):W:=⟨w.one &&& ~~~d7y n ||| (a1a v).one &&& d7y n,w.zero &&& ~~~d7y n ||| (a1a v).zero &&& d7y n⟩
def a1o (k:Nat):Bool:=decide (1 ≤ k) && decide (k ≤ 13)
end Go.Pc
/- PcSim: one cycle of a circuit, over words or over single values; lanes of words are single values. Plain definitions. -/
namespace Go.Pc
open Go.Ax
structure Alg (α:Type) where
 ev:Nat → List α → α
 z:α
 fill:Nat → α
structure Hk (α:Type) where
 net:Nat → α → α
 pin:Nat → Nat → α → α
structure Flt where
 model:Nat
 node:Nat
 pin:Int
 value:Nat
 other:Nat
def Flt.enc (f:Flt):List AV:=[.int .u8 f.model,.int .i64 f.node,.int .i64 f.pin,.int .u8 f.value,.int .i64 f.other]
structure Pat where
 ic:Rep
 ins:List Nat
 sc:Rep
 sts:List Nat
def Pat.enc (p:Pat):List AV:=[sl p.ic (p.ins.map u8R),sl p.sc (p.sts.map u8R)]
section
variable {α:Type} (A:Alg α) (nodes:List Nd) (h:Hk α)
def a0o (nodes:List Nd) (n:Nat):Nat:=(nodes[n]?.map Nd.kind).getD 0
def a21 (nodes:List Nd) (n:Nat):List Nat:=(nodes[n]?.map Nd.ins).getD []
def a34 (n:Nat) (nets:List α):Nat → List Nat → List α
 | _,[]=>[]
 | p,m :: r=>h.pin n p (nets.getD m A.z) :: a34 n nets (p + 1) r
def a0n (nets:List α) (n:Nat):List α:=a34 A h n nets 0 (a21 nodes n)
def stepG (nets:List α) (n:Nat):List α:=
 nets.set n (h.net n (if a0o nodes n ≠ 0 ∧ a0o nodes n ≠ 14 then A.ev (a0o nodes n) (a0n A nodes h nets n) else nets.getD n A.z))
def a1e (nets:List α):List Nat → List α → List α
 | i :: is,v :: vs=>a1e (nets.set i v) is vs
 | _,_=>nets
def b20 (ord ins sts:List Nat) (vi vs:List α):List α:=
 ord.foldl (stepG A nodes h) (a1e (a1e (List.replicate nodes.length A.z) ins vi) sts vs)
def b2s (outs sts:List Nat) (nets:List α):List α:=
 outs.map (fun n=>nets.getD n A.z) ++ sts.map (fun n=>(a0n A nodes h nets n).getD 0 A.z)
def f6x:Hk α:=⟨fun _ w=>w,fun _ _ w=>w⟩
def a15 (good:List α) (f:Flt):α:=
 if f.model = 0 then A.fill f.value
 else if f.model = 3 then good.getD f.other A.z
 else if f.value = 0 then A.ev 5 [good.getD f.node A.z,good.getD f.other A.z]
 else A.ev 7 [good.getD f.node A.z,good.getD f.other A.z]
def Flt.hitsNet (f:Flt) (n:Nat):Bool:=decide (f.pin < 0) && (decide (n = f.node) || (decide (f.model = 2) && decide (n = f.other)))
def Flt.hitsPin (f:Flt) (n p:Nat):Bool:=decide (0 ≤ f.pin) && (decide (n = f.node) && decide ((p:Int) = f.pin))
def hkF (f:Flt) (v:α):Hk α:=⟨fun n w=>if f.hitsNet n then v else w,fun n p w=>if f.hitsPin n p then v else w⟩
end
structure Hom {α β:Type} (A:Alg α) (B:Alg β) (φ:α → β):Prop where
 ev:∀ k l,φ (A.ev k l) = B.ev k (l.map φ)
 z:φ A.z = B.z
 fill:∀ v,φ (A.fill v) = B.fill v
structure HkHom {α β:Type} (φ:α → β) (h:Hk α) (k:Hk β):Prop where
 net:∀ n w,φ (h.net n w) = k.net n (φ w)
 pin:∀ n p w,φ (h.pin n p w) = k.pin n p (φ w)
section
variable {α β:Type} {A:Alg α} {B:Alg β} {φ:α → β} (hφ:Hom A B φ) {nodes:List Nd} {h:Hk α} {k:Hk β} (hk:HkHom φ h k)
include hφ
theorem a7p (l:List α) (n:Nat):φ (l.getD n A.z) = (l.map φ).getD n B.z:=by
 simp only [List.getD_eq_getElem?_getD,List.getElem?_map]
 cases l[n]? with
 | none=>exact hφ.z
 | some x=>rfl
include hk
theorem b2y (n:Nat) (nets:List α):∀ (l:List Nat) (p:Nat),(a34 A h n nets p l).map φ = a34 B k n (nets.map φ) p l
 | [],_=>rfl
 | m :: r,p=>by simp only [a34,List.map_cons,hk.pin,a7p hφ,b2y n nets r (p + 1)]
theorem b5m (nets:List α) (n:Nat):(a0n A nodes h nets n).map φ = a0n B nodes k (nets.map φ) n:=b2y hφ hk n nets _ 0
theorem c63 (nets:List α) (n:Nat):(stepG A nodes h nets n).map φ = stepG B nodes k (nets.map φ) n:=by
 unfold stepG
 rw [List.map_set,hk.net]
 congr 2
 split
 ·rw [hφ.ev,b5m hφ hk]
 ·exact a7p hφ _ _
omit hk in
omit hφ in
theorem b3c:∀ (is:List Nat) (vs:List α) (nets:List α),(a1e nets is vs).map φ = a1e (nets.map φ) is (vs.map φ)
 | [],vs,nets=>by cases vs<;>rfl
 | i :: is,[],nets=>rfl
 | i :: is,v :: vs,nets=>by simp only [a1e,List.map_cons,b3c is vs,List.map_set]
theorem b00 (ord ins sts:List Nat) (vi vs:List α):(b20 A nodes h ord ins sts vi vs).map φ = b20 B nodes k ord ins sts (vi.map φ) (vs.map φ):=by
 unfold b20
 have key:∀ (ord:List Nat) (n0:List α),(ord.foldl (stepG A nodes h) n0).map φ = ord.foldl (stepG B nodes k) (n0.map φ):=by
  intro ord
  induction ord with
  | nil=>intro n0;rfl
  | cons a l ih=>intro n0;simp only [List.foldl_cons,ih,c63 hφ hk]
 rw [key,b3c,b3c,List.map_replicate,hφ.z]
theorem a9t (outs sts:List Nat) (nets:List α):(b2s A nodes h outs sts nets).map φ = b2s B nodes k outs sts (nets.map φ):=by
 unfold b2s
 simp only [List.map_append,List.map_map]
 congr 1
 ·exact List.map_congr_left fun n _=>a7p hφ _ _
 ·refine List.map_congr_left fun n _=>?_
  simp only [Function.comp,a7p hφ,b5m hφ hk]
omit hk in
theorem b68 (good:List α) (f:Flt):φ (a15 A good f) = a15 B (good.map φ) f:=by
 unfold a15
 split
 ·exact hφ.fill _
 split
 ·exact a7p hφ _ _
 split
 ·rw [hφ.ev];simp only [List.map_cons,List.map_nil,a7p hφ]
 ·rw [hφ.ev];simp only [List.map_cons,List.map_nil,a7p hφ]
omit hk hφ in
theorem b7j:HkHom φ (f6x:Hk α) (f6x:Hk β):=⟨fun _ _=>rfl,fun _ _ _=>rfl⟩
omit hk hφ in
theorem c82 (f:Flt) (v:α):HkHom φ (hkF f v) (hkF f (φ v)):=⟨fun n w=>by unfold hkF;dsimp only;split<;>rfl,fun n p w=>by unfold hkF;dsimp only;split<;>rfl⟩
end
/-! ### single values -/
abbrev V2:=Bool × Bool
def a0i (v:Nat):V2:=match a25 v with
 | 0=>(false,true)
 | 1=>(true,false)
 | 2=>(false,false)
 | _=>(true,true)
def c0f (a b:V2):V2:=(a.1 && b.1,a.2 || b.2)
def vOr (a b:V2):V2:=(a.1 || b.1,a.2 && b.2)
def c0d (a b:V2):V2:=(a.1 && b.2 || a.2 && b.1,a.1 && b.1 || a.2 && b.2)
def b6q (w:V2):V2:=(w.1 && !(w.1 && w.2),w.2 && !(w.1 && w.2))
def c5k (w:V2):V2:=(w.2,w.1)
def d8x (s a b:V2):V2:=(s.2 && a.1 || s.1 && b.1 || a.1 && b.1,s.2 && a.2 || s.1 && b.2 || a.2 && b.2)
def d8w (e d:V2):V2:=(e.2 || e.1 && d.1,e.2 || e.1 && d.2)
def b6p (s:Bool × Bool × Bool) (w:V2):Bool × Bool × Bool:=(s.1 || (w.1 && !w.2),s.2.1 || (w.2 && !w.1),s.2.2 || !(w.1 || w.2))
def d55 (s:Bool × Bool × Bool):V2:=(!s.2.1 && !(s.2.2 || (s.1 && s.2.1)),!s.1 && !(s.2.2 || (s.1 && s.2.1)))
def e01 (l:List V2):V2:=d55 (l.foldl b6p (false,false,false))
def c1s (k:Nat) (r:List V2):V2:=match k with
 | 1=>a0i 0
 | 2=>a0i 1
 | 3=>r.getD 0 (false,false)
 | 4=>c5k (r.getD 0 (false,false))
 | 5=>r.foldl c0f (a0i 1)
 | 6=>c5k (r.foldl c0f (a0i 1))
 | 7=>r.foldl vOr (a0i 0)
 | 8=>c5k (r.foldl vOr (a0i 0))
 | 9=>r.foldl c0d (a0i 0)
 | 10=>c5k (r.foldl c0d (a0i 0))
 | 11=>d8x (r.getD 0 (false,false)) (r.getD 1 (false,false)) (r.getD 2 (false,false))
 | 12=>d8w (r.getD 0 (false,false)) (r.getD 1 (false,false))
 | _=>a0i 2
def c0e (k:Nat) (l:List V2):V2:=
 if l.length < a1h k ∨ a1i k < l.length then a0i 2
 else if k = 13 then e01 l
 else c1s k (l.map b6q)
def a2m:Alg W:=⟨a44,zW,a1a⟩
def vAlg:Alg V2:=⟨c0e,(false,false),a0i⟩
def a2j (j:Nat) (w:W):V2:=(w.one.getLsbD j,w.zero.getLsbD j)
section
variable {j:Nat} (hj:j < 64)
include hj
theorem a79 (v:Nat):a2j j (a1a v) = a0i v:=by
 have ha:(BitVec.allOnes 64).getLsbD j = true:=by rw [BitVec.getLsbD_allOnes];simpa using hj
 have hz:(0#64).getLsbD j = false:=BitVec.getLsbD_zero
 unfold a1a a0i
 split<;>simp only [a2j,ha,hz, *]
theorem c7l (w:W):a2j j (a54 w) = b6q (a2j j w):=by
 simp [a54,b6q,a2j,hj]
omit hj in
theorem d1w (a b:W):a2j j (d04 a b) = c0f (a2j j a) (a2j j b):=by simp [d04,c0f,a2j]
omit hj in
theorem d6r (a b:W):a2j j (wOr a b) = vOr (a2j j a) (a2j j b):=by simp [wOr,vOr,a2j]
omit hj in
theorem d1r (a b:W):a2j j (d03 a b) = c0d (a2j j a) (a2j j b):=by simp [d03,c0d,a2j]
omit hj in
theorem d1t (a:W):a2j j (d3z a) = c5k (a2j j a):=rfl
omit hj in
theorem d1u (s a b:W):a2j j (d8v s a b) = d8x (a2j j s) (a2j j a) (a2j j b):=by simp [d8v,d8x,a2j]
omit hj in
theorem d1s (a b:W):a2j j (d8u a b) = d8w (a2j j a) (a2j j b):=by simp [d8u,d8w,a2j]
omit hj in
theorem b05 {f:W → W → W} {g:V2 → V2 → V2} (h:∀ a b,a2j j (f a b) = g (a2j j a) (a2j j b)):∀ (l:List W) (z:W),a2j j (l.foldl f z) = (l.map (a2j j)).foldl g (a2j j z)
 | [],_=>rfl
 | a :: l,z=>by simp only [List.foldl_cons,List.map_cons,b05 h l,h]
def b91 (j:Nat) (s:BitVec 64 × BitVec 64 × BitVec 64):Bool × Bool × Bool:=(s.1.getLsbD j,s.2.1.getLsbD j,s.2.2.getLsbD j)
theorem c7o (s:BitVec 64 × BitVec 64 × BitVec 64) (w:W):b91 j (d7w s w) = b6p (b91 j s) (a2j j w):=by
 simp [b91,d7w,b6p,a2j,hj]
theorem c7p (s:BitVec 64 × BitVec 64 × BitVec 64):a2j j (e22 s) = d55 (b91 j s):=by
 simp [b91,e22,d55,a2j,hj]
theorem d1v (l:List W):a2j j (c5s l) = e01 (l.map (a2j j)):=by
 unfold c5s e01 c58
 rw [c7p hj]
 congr 1
 have key:∀ (l:List W) s,b91 j (l.foldl d7w s) = (l.map (a2j j)).foldl b6p (b91 j s):=by
  intro l
  induction l with
  | nil=>intro s;rfl
  | cons a l ih=>intro s;simp only [List.foldl_cons,List.map_cons,ih,c7o hj]
 rw [key]
 congr 1
 simp [b91]
omit hj in
theorem c7m (l:List W) (n:Nat):a2j j (l.getD n zW) = (l.map (a2j j)).getD n (false,false):=by
 simp only [List.getD_eq_getElem?_getD,List.getElem?_map]
 cases l[n]? with
 | none=>simp [a2j,zW]
 | some x=>rfl
theorem c4c (k:Nat) (l:List W):a2j j (a1t k l) = c1s k (l.map (a2j j)):=by
 unfold a1t c1s
 split<;>simp only [a79 hj,d1t,d1u,d1s,c7m,a6e,b05 d1w,b05 d6r,b05 d1r]
theorem c7n (k:Nat) (l:List W):a2j j (a44 k l) = c0e k (l.map (a2j j)):=by
 unfold a44 c0e
 rw [List.length_map]
 split
 ·exact a79 hj 2
 split
 ·exact d1v hj l
 ·rw [c4c hj,List.map_map,List.map_map]
  congr 1
  exact List.map_congr_left fun w _=>c7l hj w
theorem d6s:Hom a2m vAlg (a2j j):=⟨c7n hj,by simp [a2m,vAlg,a2j,zW],a79 hj⟩
end
/-! ### contradictions -/
def f6u (x y:W):BitVec 64:=(x.one &&& ~~~x.zero &&& y.zero &&& ~~~y.one) ||| (x.zero &&& ~~~x.one &&& y.one &&& ~~~y.zero)
def e2m (x y:V2):Bool:=(x.1 && !x.2 && y.2 && !y.1) || (x.2 && !x.1 && y.1 && !y.2)
def b86:List W → List W → BitVec 64 → BitVec 64
 | x :: xs,y :: ys,s=>b86 xs ys (s ||| f6u x y)
 | _,_,s=>s
def b88:List V2 → List V2 → Bool → Bool
 | x :: xs,y :: ys,s=>b88 xs ys (s || e2m x y)
 | _,_,s=>s
theorem b90 {j:Nat} (hj:j < 64):∀ (a b:List W) (s:BitVec 64),(b86 a b s).getLsbD j = b88 (a.map (a2j j)) (b.map (a2j j)) (s.getLsbD j)
 | [],b,s=>by cases b<;>rfl
 | x :: xs,[],s=>rfl
 | x :: xs,y :: ys,s=>by
  simp only [b86,b88,List.map_cons,b90 hj xs ys]
  congr 1
  simp [f6u,e2m,a2j,hj]
/-! ### a circuit -/
structure Sim where
 nodes:List Nd
 ord:List Nat
 ins:List Nat
 sts:List Nat
 outs:List Nat
section
variable {α:Type} (A:Alg α) (S:Sim)
def Sim.nets (h:Hk α) (vi vs:List α):List α:=b20 A S.nodes h S.ord S.ins S.sts vi vs
def Sim.seen (h:Hk α) (nets:List α):List α:=b2s A S.nodes h S.outs S.sts nets
end
def Sim.det (S:Sim) (f:Flt) (p:Pat):Bool:=
 let vi:=p.ins.map a0i
 let vs:=p.sts.map a0i
 let good:=S.nets vAlg f6x vi vs
 let h:=hkF f (a15 vAlg good f)
 b88 (S.seen vAlg f6x good) (S.seen vAlg h (S.nets vAlg h vi vs)) false
end Go.Pc
/- PcWf: the circuits of the statements are valid. Plain. -/
namespace Go.Pc
open Go.Ax
structure Cir.wf (c:Cir):Prop where
 pos:0 < c.nodes.length
 len:c.nodes.length ≤ 14
 names:c.names = (List.range c.nodes.length).map a3a
 kind:∀ x ∈ c.nodes,x.kind ≤ 14
 lo:∀ x ∈ c.nodes,a1h x.kind ≤ x.ins.length
 hi:∀ x ∈ c.nodes,x.ins.length ≤ a1i x.kind
 ins:∀ x ∈ c.nodes,∀ m ∈ x.ins,m < c.nodes.length
 bus:∀ x ∈ c.nodes,x.kind = 13 → ∀ m ∈ x.ins,a0o c.nodes m = 12
 mem:∀ x ∈ c.nodes,x.mem = 0 ∧ x.bit = 0
 acyc:∀ (i:Nat) (x:Nd),c.nodes[i]? = some x → a1o x.kind = true → ∀ m ∈ x.ins,m < i
 outs:∀ o ∈ c.outs,o < c.nodes.length
 outl:c.outs.length ≤ 4
theorem d7f {k:Nat} (h:k < 6):a1h (5 + k) = 2 ∧ a1i (5 + k) = 16:=by
 have:k = 0 ∨ k = 1 ∨ k = 2 ∨ k = 3 ∨ k = 4 ∨ k = 5:=by omega
 rcases this with rfl|rfl|rfl|rfl|rfl|rfl<;>exact ⟨rfl,rfl⟩
structure GateOk (ks:List Nat) (x:Nd):Prop where
 k1:1 ≤ x.kind
 k13:x.kind ≤ 13
 lo:a1h x.kind ≤ x.ins.length
 hi:x.ins.length ≤ a1i x.kind
 ins:∀ m ∈ x.ins,m < ks.length
 bus:x.kind = 13 → ∀ m ∈ x.ins,ks[m]? = some 12
 mem:x.mem = 0 ∧ x.bit = 0
theorem c1u {ks:List Nat} {i:Nat} (h:i < (a93 ks).length):(a93 ks).getD i 0 < ks.length ∧ ks[(a93 ks).getD i 0]? = some 12:=by
 have:(a93 ks).getD i 0 ∈ a93 ks:=by
  rw [List.getD,List.getElem?_eq_getElem h];exact List.getElem_mem h
 exact c3n this
theorem c87 (bus:Bool) (g:GX) (ks:List Nat) (hp:0 < ks.length):GateOk ks (a0m bus g ks):=by
 have a:=Nat.mod_lt g.i0 hp
 have b:=Nat.mod_lt g.i1 hp
 have d:=Nat.mod_lt g.i2 hp
 unfold a0m
 dsimp only
 generalize (if bus = true then g.kind % 13 else g.kind % 9) = kind
 split
 ·rename_i h6
  obtain ⟨e1,e2⟩:=d7f h6
  split
  ·exact ⟨by dsimp only;omega,by dsimp only;omega,by simp [e1],by simp [e2],by simp [a,b,d],by dsimp only;omega,⟨rfl,rfl⟩⟩
  ·exact ⟨by dsimp only;omega,by dsimp only;omega,by simp [e1],by simp [e2],by simp [a,b],by dsimp only;omega,⟨rfl,rfl⟩⟩
 split
 ·exact ⟨by dsimp only;omega,by dsimp only;omega,by simp [a1h],by simp [a1i],by simp [a],by simp,⟨rfl,rfl⟩⟩
 split
 ·exact ⟨by dsimp only;omega,by dsimp only;omega,by simp [a1h],by simp [a1i],by simp [a,b,d],by simp,⟨rfl,rfl⟩⟩
 split
 ·exact ⟨by dsimp only;omega,by dsimp only;omega,by simp [a1h],by simp [a1i],by simp [a,b],by simp,⟨rfl,rfl⟩⟩
 split
 ·rename_i h
  have t0:=c1u (Nat.mod_lt g.i0 h.2)
  split
  ·have t1:=c1u (Nat.mod_lt (g.i0 % (a93 ks).length + 1) h.2)
   refine ⟨by dsimp only;omega,by dsimp only;omega,by simp [a1h],by simp [a1i],?_,?_,⟨rfl,rfl⟩⟩
   ·intro m hm;simp only [List.mem_cons,List.not_mem_nil,or_false] at hm;rcases hm with rfl|rfl;exact t0.1;exact t1.1
   ·intro _ m hm;simp only [List.mem_cons,List.not_mem_nil,or_false] at hm;rcases hm with rfl|rfl;exact t0.2;exact t1.2
  ·refine ⟨by dsimp only;omega,by dsimp only;omega,by simp [a1h],by simp [a1i],?_,?_,⟨rfl,rfl⟩⟩
   ·intro m hm;simp only [List.mem_cons,List.not_mem_nil,or_false] at hm;subst hm;exact t0.1
   ·intro _ m hm;simp only [List.mem_cons,List.not_mem_nil,or_false] at hm;subst hm;exact t0.2
 split
 ·have:g.i0 % 2 = 0 ∨ g.i0 % 2 = 1:=by omega
  rcases this with h|h<;>rw [h]<;>exact ⟨by dsimp only;omega,by dsimp only;omega,by simp [a1h],by simp [a1i],by simp,by simp,⟨rfl,rfl⟩⟩
 ·exact ⟨by dsimp only;omega,by dsimp only;omega,by simp [a1h],by simp [a1i],by simp [a],by simp,⟨rfl,rfl⟩⟩
theorem d4n (bus:Bool):∀ (l:List GX) (ks:List Nat) (i:Nat) (x:Nd),(gN bus ks l)[i]? = some x → ∃ g,x = a0m bus g (ks ++ ((gN bus ks l).take i).map Nd.kind)
 | [],ks,i,x,h=>by simp [gN] at h
 | g :: l,ks,0,x,h=>by simp only [gN,List.getElem?_cons_zero,Option.some.injEq] at h;exact ⟨g,by rw [← h];simp⟩
 | g :: l,ks,i + 1,x,h=>by
  simp only [gN,List.getElem?_cons_succ] at h
  obtain ⟨g',hg⟩:=d4n bus l _ i x h
  exact ⟨g',by rw [hg];simp [gN]⟩
theorem CX.dn_len (x:CX):x.dn.length = x.d:=by
 have:x.d < 3:=Nat.mod_lt _ (by omega)
 unfold CX.dn;rw [List.length_map,List.length_take];simp;omega
theorem CX.nodes_len (x:CX):x.nodes.length = x.n:=by
 unfold CX.nodes CX.n
 rw [List.length_append,List.length_append,List.length_replicate,x.dn_len,a58]
theorem CX.dn_kind (x:CX):x.dn.map Nd.kind = List.replicate x.d 14:=by
 have:x.d = 0 ∨ x.d = 1 ∨ x.d = 2:=by have:x.d < 3:=Nat.mod_lt _ (by omega);omega
 unfold CX.dn
 rcases this with h|h|h<;>rw [h]<;>rfl
theorem CX.base_len (x:CX):x.base.length = x.k + x.d:=by unfold CX.base;simp
theorem CX.kinds (x:CX):x.nodes.map Nd.kind = x.base ++ (gN x.bus x.base x.gs).map Nd.kind:=by
 unfold CX.nodes CX.base
 rw [List.map_append,List.map_append,List.map_replicate,x.dn_kind]
 rfl
theorem CX.node_cases (x:CX) {i:Nat} {nd:Nd} (h:x.nodes[i]? = some nd):nd = a9p ∨ (∃ v,nd = a41 (v % x.n)) ∨ GateOk ((x.nodes.map Nd.kind).take i) nd:=by
 unfold CX.nodes at h
 by_cases h1:i < x.k
 ·rw [List.append_assoc,List.getElem?_append_left (by simpa using h1),List.getElem?_replicate,if_pos h1] at h
  exact .inl (Option.some.inj h).symm
 rw [List.append_assoc,List.getElem?_append_right (by simpa using h1),List.length_replicate] at h
 by_cases h2:i - x.k < x.d
 ·rw [List.getElem?_append_left (by rw [x.dn_len];exact h2)] at h
  unfold CX.dn at h
  rw [List.getElem?_map] at h
  cases hv:([x.d0,x.d1].take x.d)[i - x.k]? with
  | none=>rw [hv] at h;cases h
  | some v=>rw [hv] at h;exact .inr (.inl ⟨v,(Option.some.inj h).symm⟩)
 ·rw [List.getElem?_append_right (by rw [x.dn_len];omega),x.dn_len] at h
  obtain ⟨g,hg⟩:=d4n _ _ _ _ _ h
  refine .inr (.inr ?_)
  have e:(x.nodes.map Nd.kind).take i = x.base ++ ((gN x.bus x.base x.gs).take (i - x.k - x.d)).map Nd.kind:=by
   rw [x.kinds,List.take_append,List.take_of_length_le (by rw [x.base_len];omega),x.base_len,List.map_take]
   congr 2;omega
  rw [e,hg]
  exact c87 _ _ _ (by
   rw [List.length_append,x.base_len];have:0 < x.k:=by unfold CX.k;omega
   omega)
theorem CX.wf (x:CX):x.cir.wf:=by
 have hn:=x.nodes_len
 have hk:x.k ≤ 4 ∧ 0 < x.k:=by unfold CX.k;omega
 have hd:x.d < 3:=Nat.mod_lt _ (by omega)
 have hg:x.gs.length ≤ 8:=by unfold CX.gs;rw [List.length_take];omega
 have hnn:x.n = x.k + x.d + x.gs.length:=rfl
 have key:∀ nd ∈ x.nodes,∃ i,x.nodes[i]? = some nd ∧ i < x.n:=by
  intro nd h
  obtain ⟨i,hi⟩:=List.mem_iff_getElem?.1 h
  exact ⟨i,hi,by rw [← hn];exact (List.getElem?_eq_some_iff.1 hi).1⟩
 have hl:∀ i,i < x.n → ((x.nodes.map Nd.kind).take i).length = i:=fun i hi=>by rw [List.length_take,List.length_map,hn];omega
 have hsrc:∀ nd ∈ x.nodes,nd = a9p ∨ (∃ v,nd = a41 (v % x.n)) ∨ ∃ i,i < x.n ∧ GateOk ((x.nodes.map Nd.kind).take i) nd:=by
  intro nd h
  obtain ⟨i,hi,hlt⟩:=key nd h
  rcases x.node_cases hi with h|h|h
  ·exact .inl h
  ·exact .inr (.inl h)
  ·exact .inr (.inr ⟨i,hlt,h⟩)
 refine ⟨by show 0 < x.nodes.length;omega,by show x.nodes.length ≤ 14;omega,by show x.names = _;rw [show x.cir.nodes = x.nodes from rfl,hn];rfl,?_,?_,?_,?_,?_,?_,?_,?_,?_⟩
 ·intro nd h
  rcases hsrc nd h with rfl|⟨v,rfl⟩|⟨i,hi,h⟩
  ·decide
  ·exact Nat.le_refl 14
  ·have:=h.k13;omega
 ·intro nd h
  rcases hsrc nd h with rfl|⟨v,rfl⟩|⟨i,hi,h⟩
  ·decide
  ·exact Nat.le_refl 1
  ·exact h.lo
 ·intro nd h
  rcases hsrc nd h with rfl|⟨v,rfl⟩|⟨i,hi,h⟩
  ·decide
  ·exact Nat.le_refl 1
  ·exact h.hi
 ·intro nd h m hm
  show m < x.nodes.length
  rw [hn]
  rcases hsrc nd h with rfl|⟨v,rfl⟩|⟨i,hi,h⟩
  ·simp [a9p] at hm
  ·simp only [a41,List.mem_cons,List.not_mem_nil,or_false] at hm;subst hm;exact Nat.mod_lt _ (by omega)
  ·have:=h.ins m hm;rw [hl i hi] at this;omega
 ·intro nd h h13 m hm
  rcases hsrc nd h with rfl|⟨v,rfl⟩|⟨i,hi,h⟩
  ·simp [a9p] at hm
  ·simp [a41] at h13
  ·have h1:=h.bus h13 m hm
   have h2:=h.ins m hm
   rw [hl i hi] at h2
   rw [List.getElem?_take,if_pos h2,List.getElem?_map] at h1
   show a0o x.nodes m = 12
   unfold a0o
   rw [h1];rfl
 ·intro nd h
  rcases hsrc nd h with rfl|⟨v,rfl⟩|⟨i,hi,h⟩
  ·exact ⟨rfl,rfl⟩
  ·exact ⟨rfl,rfl⟩
  ·exact h.mem
 ·intro i nd h hc m hm
  have hlt:i < x.n:=by rw [← hn];exact (List.getElem?_eq_some_iff.1 h).1
  rcases x.node_cases h with rfl|⟨v,rfl⟩|h
  ·simp [a9p] at hm
  ·simp [a41,a1o] at hc
  ·have:=h.ins m hm;rw [hl i hlt] at this;exact this
 ·intro o ho
  show o < x.nodes.length
  rw [hn]
  have ho:o ∈ x.outN:=ho
  unfold CX.outN at ho
  simp only [List.mem_append,List.mem_map,List.mem_cons,List.not_mem_nil,or_false] at ho
  rcases ho with ⟨a,_,rfl⟩|rfl
  ·exact Nat.mod_lt _ (by omega)
  ·omega
 ·show x.outN.length ≤ 4
  unfold CX.outN;simp;omega
end Go.Pc
/- PcFan: which pins read a net. Plain. -/
namespace Go.Pc
open Go.Ax
def a8a (l:Nat × Nat):List AV:=[.int .i64 l.1,.int .i64 l.2]
def cnt (L:List (Nat × Nat)) (a:Nat):Nat:=(L.map (·.1)).count a
structure FoOk (nodes:List Nd) (i k:Nat) (fo:List (List (Nat × Nat))):Prop where
 len:fo.length = nodes.length
 num:∀ (j:Nat) (L:List (Nat × Nat)),fo[j]? = some L → ∀ a,cnt L a = if a < i then (a21 nodes a).count j else if a = i then ((a21 nodes i).take k).count j else 0
theorem FoOk.zero (nodes:List Nd):FoOk nodes 0 0 (List.replicate nodes.length []):=by
 refine ⟨by simp,fun j L h a=>?_⟩
 rw [List.getElem?_replicate] at h
 split at h
 ·cases h;simp [Pc.cnt]
 ·cases h
theorem FoOk.step {nodes:List Nd} {i k m:Nat} {fo:List (List (Nat × Nat))} {L:List (Nat × Nat)} (h:FoOk nodes i k fo) (hm:(a21 nodes i)[k]? = some m) (hL:fo[m]? = some L):FoOk nodes i (k + 1) (fo.set m (L ++ [(i,k)])):=by
 refine ⟨by rw [List.length_set,h.len],fun j L' hj a=>?_⟩
 have ht:=a0u hm
 rw [List.getElem?_set] at hj
 have hml:m < fo.length:=(List.getElem?_eq_some_iff.1 hL).1
 by_cases hmj:m = j
 ·subst hmj
  simp only [if_true,hml,Option.some.injEq] at hj
  subst hj
  have:=h.num m L hL a
  have e:Pc.cnt (L ++ [(i,k)]) a = Pc.cnt L a + if i = a then 1 else 0:=by
   unfold Pc.cnt
   rw [List.map_append,List.count_append]
   by_cases hia:i = a
   ·subst hia;simp
   ·simp [hia,List.count_cons]
  rw [e,this,ht]
  by_cases h1:a < i
  ·simp [h1];omega
  ·by_cases h2:a = i
   ·subst h2;simp
   ·simp [h1,h2];omega
 ·rw [if_neg hmj] at hj
  have:=h.num j L' hj a
  rw [this,ht]
  by_cases h1:a < i
  ·simp [h1]
  ·by_cases h2:a = i
   ·subst h2
    simp [List.count_append,List.count_cons,hmj]
   ·simp [h1,h2]
theorem FoOk.next {nodes:List Nd} {i k:Nat} {fo:List (List (Nat × Nat))} (h:FoOk nodes i k fo) (hk:k = (a21 nodes i).length):FoOk nodes (i + 1) 0 fo:=by
 refine ⟨h.len,fun j L hj a=>?_⟩
 rw [h.num j L hj a]
 subst hk
 rw [List.take_length]
 by_cases h1:a < i
 ·simp [h1,show a < i + 1 by omega]
 ·by_cases h2:a = i
  ·subst h2;simp
  ·simp [h1,h2,show ¬ a < i + 1 by omega]
theorem a1g {nodes:List Nd} {i:Nat} {x:Nd} (h:nodes[i]? = some x):a21 nodes i = x.ins:=by simp [a21,h]
theorem c7h (n:Nat):∀ (L:List (Nat × Nat)),(∀ l ∈ L,l.1 < n) → L.length = ((List.range n).map fun a=>cnt L a).sum
 | [],_=>by
  have:∀ l:List Nat,(l.map fun a=>cnt [] a).sum = 0:=by intro l;induction l with|nil=>rfl|cons a l ih=>rw [List.map_cons,List.sum_cons,ih];rfl
  rw [this];rfl
 | x :: L,h=>by
  have ih:=c7h n L (fun l hl=>h l (by simp [hl]))
  have hx:=h x (by simp)
  have e:∀ a,cnt (x :: L) a = cnt L a + if x.1 = a then 1 else 0:=fun a=>by
   unfold cnt;rw [List.map_cons,List.count_cons];simp [beq_iff_eq]
  have s:∀ (l:List Nat),l.Nodup → (l.map fun a=>cnt (x :: L) a).sum = (l.map fun a=>cnt L a).sum + if x.1 ∈ l then 1 else 0:=by
   intro l
   induction l with
   | nil=>intro _;rfl
   | cons a l ih2=>
    intro hn
    rw [List.nodup_cons] at hn
    simp only [List.map_cons,List.sum_cons,e a,ih2 hn.2,List.mem_cons]
    by_cases h1:x.1 = a
    ·subst h1;simp [hn.1];omega
    ·simp [h1];omega
  rw [s _ List.nodup_range,if_pos (by simpa using hx),List.length_cons,ih]
theorem FoOk.node {nodes:List Nd} {i k j:Nat} {fo:List (List (Nat × Nat))} {L:List (Nat × Nat)} (h:FoOk nodes i k fo) (hL:fo[j]? = some L) (hi:i ≤ nodes.length):∀ l ∈ L,l.1 < nodes.length:=by
 intro l hl
 have hc:=h.num j L hL l.1
 have hp:0 < cnt L l.1:=by unfold cnt;exact List.count_pos_iff.2 (List.mem_map.2 ⟨l,hl,rfl⟩)
 by_cases h1:l.1 < i
 ·omega
 ·rw [if_neg h1] at hc
  by_cases h2:l.1 = i
  ·rw [if_pos h2] at hc
   cases hx:nodes[i]? with
   | none=>simp [a21,hx] at hc;omega
   | some x=>have:=(List.getElem?_eq_some_iff.1 hx).1;omega
  ·rw [if_neg h2] at hc;omega
theorem FoOk.total {nodes:List Nd} {i k j:Nat} {fo:List (List (Nat × Nat))} {L:List (Nat × Nat)} (h:FoOk nodes i k fo) (hL:fo[j]? = some L) (hn:nodes.length ≤ 14) (hx:∀ y ∈ nodes,y.ins.length ≤ 16) (hi:i ≤ nodes.length:=by omega):L.length ≤ 224:=by
 have hb:∀ a,cnt L a ≤ 16:=by
  intro a
  have hins:(a21 nodes a).length ≤ 16:=by
   unfold a21
   cases hx':nodes[a]? with
   | none=>simp
   | some x=>exact hx x (List.mem_of_getElem? hx')
  rw [h.num j L hL a]
  split
  ·exact Nat.le_trans List.count_le_length hins
  split
  ·rename_i e;subst e
   refine Nat.le_trans List.count_le_length ?_
   rw [List.length_take];omega
  ·omega
 rw [c7h nodes.length L (h.node hL hi)]
 have s:∀ l:List Nat,(l.map fun a=>cnt L a).sum ≤ 16 * l.length:=by
  intro l
  induction l with
  | nil=>simp
  | cons a l ih=>have:=hb a;simp only [List.map_cons,List.sum_cons,List.length_cons];omega
 have:=s (List.range nodes.length)
 rw [List.length_range] at this
 omega
theorem Cir.wf.insl {c:Cir} (h:c.wf) {x:Nd} (hx:x ∈ c.nodes):x.ins.length ≤ 16:=by
 have k14:=h.kind x hx
 have hhi:=h.hi x hx
 have:a1i x.kind ≤ 16:=by
  have hk:x.kind = 0 ∨ x.kind = 1 ∨ x.kind = 2 ∨ x.kind = 3 ∨ x.kind = 4 ∨ x.kind = 5 ∨ x.kind = 6 ∨ x.kind = 7 ∨ x.kind = 8 ∨ x.kind = 9 ∨ x.kind = 10 ∨ x.kind = 11 ∨ x.kind = 12 ∨ x.kind = 13 ∨ x.kind = 14:=by omega
  rcases hk with e|e|e|e|e|e|e|e|e|e|e|e|e|e|e<;>rw [e]<;>decide
 omega
end Go.Pc
/- PcKahn: the order in which nodes become ready. Plain. -/
namespace Go.Pc
open Go.Ax
def b84 (nodes:List Nd) (ready:List Nat) (done a:Nat):Nat:=((a21 nodes a).filter fun m=>decide (m ∉ ready.take done)).length
structure Kahn (nodes:List Nd) (left ready:List Nat) (done:Nat) (L:List (Nat × Nat)):Prop where
 ll:left.length = nodes.length
 rn:∀ r ∈ ready,r < nodes.length
 nd:ready.Nodup
 dle:done ≤ ready.length
 eq:∀ a,a < nodes.length → a1o (a0o nodes a) = true → left.getD a 0 + cnt L a = b84 nodes ready done a
 nc:∀ a,a < nodes.length → a1o (a0o nodes a) = false → left.getD a 0 = 0
 zero:∀ a,a < nodes.length → (a ∈ ready ↔ left.getD a 0 = 0)
def b0t (nodes:List Nd) (a:Nat):Nat:=if a1o (a0o nodes a) then (a21 nodes a).length else 0
def a3b (nodes:List Nd) (i:Nat):List Nat:=(List.range nodes.length).map fun j=>if j < i then b0t nodes j else 0
def a3q (nodes:List Nd) (i:Nat):List Nat:=(List.range i).filter fun j=>decide (b0t nodes j = 0)
theorem b8i (nodes:List Nd) (i:Nat):a3q nodes (i + 1) = if b0t nodes i = 0 then a3q nodes i ++ [i] else a3q nodes i:=by
 unfold a3q
 rw [List.range_succ,List.filter_append]
 by_cases h:b0t nodes i = 0<;>simp [h]
theorem c3x (nodes:List Nd) (i:Nat):(a3q nodes i).length ≤ i:=Nat.le_trans (List.length_filter_le _ _) (by simp)
theorem c0y (nodes:List Nd):a3b nodes 0 = List.replicate nodes.length 0:=by
 apply List.ext_getElem?
 intro j
 simp only [a3b,List.getElem?_map,List.getElem?_replicate,Nat.not_lt_zero,if_false]
 by_cases h:j < nodes.length
 ·rw [List.getElem?_range h];simp [h]
 ·rw [List.getElem?_eq_none (by simpa using h)];simp [h]
theorem a5r {nodes:List Nd} {i j:Nat} (h:j < nodes.length):(a3b nodes i)[j]? = some (if j < i then b0t nodes j else 0):=by
 simp [a3b,List.getElem?_range h]
theorem b3h {nodes:List Nd} {i:Nat} (h:i < nodes.length):(a3b nodes i).set i (b0t nodes i) = a3b nodes (i + 1):=by
 apply List.ext_getElem?
 intro j
 rw [List.getElem?_set]
 by_cases hj:j < nodes.length
 ·rw [a5r hj,a5r hj]
  by_cases hij:i = j
  ·subst hij;simp [a3b,h]
  ·by_cases h2:j < i
   ·simp [hij,h2,show j < i + 1 by omega]
   ·simp [hij,h2,show ¬ j < i + 1 by omega]
 ·have e:∀ i,(a3b nodes i)[j]? = none:=fun i=>List.getElem?_eq_none (by simp [a3b];omega)
  rw [e,e]
  have:i ≠ j:=by omega
  simp [this]
theorem c0z {nodes:List Nd} {i:Nat} (h:i < nodes.length) (h0:b0t nodes i = 0):a3b nodes i = a3b nodes (i + 1):=by
 rw [← b3h h]
 apply List.ext_getElem?
 intro j
 rw [List.getElem?_set]
 by_cases hij:i = j
 ·subst hij;rw [a5r h];simp [a3b,h,h0]
 ·simp [hij]
theorem Kahn.start (nodes:List Nd):Kahn nodes (a3b nodes nodes.length) (a3q nodes nodes.length) 0 []:=by
 have hg:∀ a,a < nodes.length → (a3b nodes nodes.length).getD a 0 = b0t nodes a:=by
  intro a ha
  rw [List.getD,a5r ha];simp [ha]
 refine ⟨by simp [a3b],?_,?_,Nat.zero_le _,?_,?_,?_⟩
 ·intro r hr
  unfold a3q at hr
  rw [List.mem_filter] at hr
  simpa using hr.1
 ·exact List.nodup_range.filter _
 ·intro a ha hc
  rw [hg a ha]
  have e:∀ l:List Nat,(l.filter fun m=>decide (m ∉ ([]:List Nat))) = l:=fun l=>List.filter_eq_self.2 (fun m _=>by simp)
  simp only [b0t,hc,if_true,b84,cnt,List.map_nil,List.count_nil,List.take_zero,Nat.add_zero]
  exact (congrArg List.length (e _)).symm
 ·intro a ha hc
  rw [hg a ha];simp [b0t,hc]
 ·intro a ha
  rw [hg a ha]
  unfold a3q
  rw [List.mem_filter]
  simp [ha]
section
variable {nodes:List Nd} {left ready:List Nat} {done:Nat} {L:List (Nat × Nat)}
theorem b7v (L:List (Nat × Nat)) (a p b:Nat):cnt (L ++ [(a,p)]) b = cnt L b + if a = b then 1 else 0:=by
 unfold cnt
 rw [List.map_append,List.count_append]
 by_cases hia:a = b
 ·subst hia;simp
 ·simp [hia,List.count_cons]
theorem Kahn.skip (h:Kahn nodes left ready done L) {a p:Nat} (hc:a1o (a0o nodes a) = false):Kahn nodes left ready done (L ++ [(a,p)]):=by
 refine ⟨h.ll,h.rn,h.nd,h.dle,?_,h.nc,h.zero⟩
 intro b hb hcb
 have:a ≠ b:=fun e=>by subst e;rw [hc] at hcb;cases hcb
 rw [b7v,if_neg this,Nat.add_zero]
 exact h.eq b hb hcb
theorem d19 {ready:List Nat} {done x a:Nat} (h:done ≤ ready.length):b84 nodes (ready ++ [x]) done a = b84 nodes ready done a:=by
 unfold b84;rw [List.take_append_of_le_length h]
theorem Kahn.pos (h:Kahn nodes left ready done L) {a p:Nat} (ha:a < nodes.length) (hc:a1o (a0o nodes a) = true) (hcnt:cnt (L ++ [(a,p)]) a ≤ b84 nodes ready done a):0 < left.getD a 0:=by
 have:=h.eq a ha hc
 rw [b7v,if_pos rfl] at hcnt
 omega
theorem Kahn.dec (h:Kahn nodes left ready done L) {a p:Nat} (ha:a < nodes.length) (hc:a1o (a0o nodes a) = true) (hcnt:cnt (L ++ [(a,p)]) a ≤ b84 nodes ready done a) :
 Kahn nodes (left.set a (left.getD a 0 - 1)) (if left.getD a 0 - 1 = 0 then ready ++ [a] else ready) done (L ++ [(a,p)]):=by
 have hpos:=h.pos ha hc hcnt
 have hal:a < left.length:=by rw [h.ll];exact ha
 have hget:∀ b,(left.set a (left.getD a 0 - 1)).getD b 0 = if a = b then left.getD a 0 - 1 else left.getD b 0:=by
  intro b
  simp only [List.getD_eq_getElem?_getD,List.getElem?_set]
  by_cases hab:a = b
  ·subst hab;simp [hal]
  ·simp [hab]
 have hna:a ∉ ready:=fun hm=>by have:=(h.zero a ha).1 hm;omega
 have hpe:∀ b,b84 nodes (if left.getD a 0 - 1 = 0 then ready ++ [a] else ready) done b = b84 nodes ready done b:=by
  intro b;split
  ·exact d19 h.dle
  ·rfl
 refine ⟨by rw [List.length_set,h.ll],?_,?_,?_,?_,?_,?_⟩
 ·intro r hr
  split at hr
  ·simp only [List.mem_append,List.mem_singleton] at hr
   rcases hr with hr|rfl
   ·exact h.rn r hr
   ·exact ha
  ·exact h.rn r hr
 ·split
  ·rw [List.nodup_append]
   refine ⟨h.nd,by simp,?_⟩
   intro x hx y hy
   simp only [List.mem_singleton] at hy
   subst hy
   exact fun e=>hna (e ▸ hx)
  ·exact h.nd
 ·split
  ·have:=h.dle;simp;omega
  ·exact h.dle
 ·intro b hb hcb
  rw [hget,hpe,b7v]
  have:=h.eq b hb hcb
  by_cases hab:a = b
  ·subst hab;rw [if_pos rfl,if_pos rfl];omega
  ·rw [if_neg hab,if_neg hab,Nat.add_zero];exact this
 ·intro b hb hcb
  have:a ≠ b:=fun e=>by subst e;rw [hc] at hcb;cases hcb
  rw [hget,if_neg this]
  exact h.nc b hb hcb
 ·intro b hb
  rw [hget]
  by_cases hab:a = b
  ·subst hab
   rw [if_pos rfl]
   split
   ·rename_i e;exact ⟨fun _=>e,fun _=>by simp⟩
   ·rename_i e;exact ⟨fun hm=>absurd hm hna,fun e'=>absurd e' e⟩
  ·rw [if_neg hab]
   rw [← h.zero b hb]
   split
   ·simp [Ne.symm hab]
   ·rfl
theorem a6m (l:List Nat) (S:List Nat) (x:Nat) (hx:x ∉ S):(l.filter fun m=>decide (m ∉ S)).length = (l.filter fun m=>decide (m ∉ S ++ [x])).length + l.count x:=by
 induction l with
 | nil=>rfl
 | cons a l ih=>
  simp only [List.filter_cons,List.count_cons]
  by_cases hax:a = x
  ·subst hax
   simp [hx] at ih ⊢
   omega
  ·by_cases haS:a ∈ S
   ·simp [haS,hax] at ih ⊢;omega
   ·simp [haS,hax] at ih ⊢;omega
theorem Kahn.next (h:Kahn nodes left ready done L) {x:Nat} (hx:ready[done]? = some x) (hL:∀ a,a < nodes.length → cnt L a = (a21 nodes a).count x):Kahn nodes left ready (done + 1) []:=by
 have hdl:=(List.getElem?_eq_some_iff.1 hx).1
 have ht:=a0u hx
 have hnx:x ∉ ready.take done:=by
  intro hm
  obtain ⟨i,hi⟩:=List.mem_iff_getElem?.1 hm
  rw [List.getElem?_take] at hi
  split at hi
  case isFalse=>cases hi
  have:=(List.getElem?_inj (by omega) h.nd).1 (hi.trans hx.symm)
  omega
 refine ⟨h.ll,h.rn,h.nd,by omega,?_,h.nc,h.zero⟩
 intro a ha hc
 have:=h.eq a ha hc
 rw [hL a ha] at this
 unfold b84 at this ⊢
 rw [ht]
 rw [a6m _ _ x hnx] at this
 simp only [cnt,List.map_nil,List.count_nil]
 omega
theorem d67 {ready:List Nat} {done x a:Nat} (nd:ready.Nodup) (hx:ready[done]? = some x):(a21 nodes a).count x ≤ b84 nodes ready done a:=by
 have hdl:=(List.getElem?_eq_some_iff.1 hx).1
 have hnx:x ∉ ready.take done:=by
  intro hm
  obtain ⟨i,hi⟩:=List.mem_iff_getElem?.1 hm
  rw [List.getElem?_take] at hi
  split at hi
  case isFalse=>cases hi
  have:=(List.getElem?_inj (by omega) nd).1 (hi.trans hx.symm)
  omega
 unfold b84
 rw [a6m _ _ x hnx]
 omega
theorem Kahn.all (h:Kahn nodes left ready ready.length []) (hac:∀ (i:Nat) (x:Nd),nodes[i]? = some x → a1o x.kind = true → ∀ m ∈ x.ins,m < i):nodes.length ≤ ready.length:=by
 have key:∀ n a,a ≤ n → a < nodes.length → a ∈ ready:=by
  intro n
  induction n with
  | zero=>
   intro a han ha
   obtain rfl:a = 0:=by omega
   rw [h.zero 0 ha]
   cases hc:a1o (a0o nodes 0) with
   | false=>exact h.nc 0 ha hc
   | true=>
    obtain ⟨x,hx⟩:∃ x,nodes[0]? = some x:=⟨_,List.getElem?_eq_getElem ha⟩
    have he:=h.eq 0 ha hc
    have hk:a0o nodes 0 = x.kind:=by simp [a0o,hx]
    rw [hk] at hc
    have hi:a21 nodes 0 = []:=by
     simp only [a21,hx,Option.map_some,Option.getD_some]
     cases hins:x.ins with
     | nil=>rfl
     | cons m r=>have:=hac 0 x hx hc m (by simp [hins]);omega
    have:b84 nodes ready ready.length 0 = 0:=by simp [b84,hi]
    omega
  | succ n ih=>
   intro a han ha
   rw [h.zero a ha]
   cases hc:a1o (a0o nodes a) with
   | false=>exact h.nc a ha hc
   | true=>
    obtain ⟨x,hx⟩:∃ x,nodes[a]? = some x:=⟨_,List.getElem?_eq_getElem ha⟩
    have he:=h.eq a ha hc
    have hk:a0o nodes a = x.kind:=by simp [a0o,hx]
    rw [hk] at hc
    have hi:a21 nodes a = x.ins:=a1g hx
    have:b84 nodes ready ready.length a = 0:=by
     unfold b84
     rw [hi,List.take_length,List.length_eq_zero_iff,List.filter_eq_nil_iff]
     intro m hm
     have h1:=hac a x hx hc m hm
     have h2:=ih m (by omega) (by omega)
     simp [h2]
    omega
 have:=b3g (l:=List.range nodes.length) (T:=ready) List.nodup_range (fun a ha=>key a a (Nat.le_refl _) (by simpa using ha))
 simpa using this
theorem Kahn.bound (h:Kahn nodes left ready done L):ready.length ≤ nodes.length:=by
 have:=b3g h.nd (T:=List.range nodes.length) (fun a ha=>by simpa using h.rn a ha)
 simpa using this
end
end Go.Pc
/- PcPerm: exchanging neighbours. Plain. -/
namespace Go.Pc
theorem c5w {l:List Nat} {j x y:Nat} (hj:l[j + 1]? = some x) (hi:l[j]? = some y):((l.set (j + 1) y).set j x).Perm l:=by
 induction l generalizing j with
 | nil=>simp at hj
 | cons a l ih=>
  cases j with
  | zero=>
   cases l with
   | nil=>simp at hj
   | cons b l=>
    simp only [List.getElem?_cons_succ,List.getElem?_cons_zero,Option.some.injEq] at hj hi
    subst hj;subst hi
    exact List.Perm.swap ..
  | succ j=>
   simp only [List.getElem?_cons_succ] at hj hi
   simp only [List.set_cons_succ]
   exact (ih hj hi).cons a
def d4r (a b:Nat):Int:=if a < b then -1 else if b < a then 1 else 0
end Go.Pc
/- PcReach: which nets a net depends on; faults that are valid. Plain. -/
namespace Go.Pc
open Go.Ax
inductive DepOn (nodes:List Nd):Nat → Nat → Prop
 | refl (a:Nat):DepOn nodes a a
 | step {a m b:Nat} (hk:a0o nodes a ≠ 14) (hm:m ∈ a21 nodes a) (h:DepOn nodes m b):DepOn nodes a b
theorem DepOn.cases {nodes:List Nd} {a b:Nat} (h:DepOn nodes a b):a = b ∨ (a0o nodes a ≠ 14 ∧ ∃ m,m ∈ a21 nodes a ∧ DepOn nodes m b):=by
 cases h with
 | refl=>exact .inl rfl
 | step hk hm h=>exact .inr ⟨hk,_,hm,h⟩
theorem DepOn.not_dff {nodes:List Nd} {a b:Nat} (hab:a ≠ b) (hk:a0o nodes a = 14):¬ DepOn nodes a b:=fun h=>by
 rcases h.cases with e|⟨h1,_⟩
 ·exact hab e
 ·exact h1 hk
theorem DepOn.snoc {nodes:List Nd} {a b m:Nat} (h:DepOn nodes a b) (hk:a0o nodes b ≠ 14) (hm:m ∈ a21 nodes b):DepOn nodes a m:=by
 induction h with
 | refl a=>exact .step hk hm (.refl _)
 | step hk' hm' _ ih=>exact .step hk' hm' (ih hk hm)
theorem Cir.wf.comb_of {c:Cir} (h:c.wf) {x:Nd} (hx:x ∈ c.nodes) (hp:0 < x.ins.length) (h14:x.kind ≠ 14):a1o x.kind = true:=by
 have h1:=h.kind x hx
 have h2:=h.hi x hx
 have h3:x.kind ≠ 0:=by
  intro e;rw [e] at h2
  have:a1i 0 = 0:=rfl
  omega
 simp [a1o];omega
structure FltOk (nodes:List Nd) (f:Flt):Prop where
 model:f.model = 0 ∨ f.model = 2 ∨ f.model = 3
 node:f.node < nodes.length
 pin:-1 ≤ f.pin ∧ f.pin < (a21 nodes f.node).length
 value:f.value ≤ 1
 other:f.other < nodes.length
 stuck:f.model = 0 → f.other = 0
 bridge:f.model ≠ 0 → f.pin = -1 ∧ f.node ≠ f.other ∧ (f.model = 2 → f.node ≤ f.other) ∧ (f.model = 3 → f.value = 0) ∧ a0o nodes f.node ≠ 12 ∧ a0o nodes f.other ≠ 12 ∧ ¬ DepOn nodes f.node f.other ∧ ¬ DepOn nodes f.other f.node
end Go.Pc
/- PcRun: the simulation, step by step. Plain. -/
namespace Go.Pc
open Go.Ax
section
variable {α:Type} {A:Alg α} {nodes:List Nd} {h:Hk α}
theorem c6n {n:Nat} {nets:List α}:∀ {l:List Nat} {p i m:Nat},l[i]? = some m → (a34 A h n nets p l)[i]? = some (h.pin n (p + i) (nets.getD m A.z))
 | [],p,i,m,hm=>by simp at hm
 | a :: l,p,0,m,hm=>by simp at hm;subst hm;rfl
 | a :: l,p,i + 1,m,hm=>by
  simp only [List.getElem?_cons_succ] at hm
  simp only [a34,List.getElem?_cons_succ,c6n (p:=p + 1) hm]
  rw [show p + 1 + i = p + (i + 1) by omega]
theorem c6m {n:Nat} {nets:List α}:∀ (l:List Nat) (p:Nat),(a34 A h n nets p l).length = l.length
 | [],_=>rfl
 | a :: l,p=>by simp [a34,c6m l]
theorem a3s {nets:List α} {n:Nat}:(a0n A nodes h nets n).length = (a21 nodes n).length:=c6m _ _
theorem b10 {nets:List α} {n i m:Nat} {v:α} (hm:(a21 nodes n)[i]? = some m) (hv:nets[m]? = some v):(a0n A nodes h nets n).take (i + 1) = (a0n A nodes h nets n).take i ++ [h.pin n i v]:=by
 have:=c6n (A:=A) (h:=h) (n:=n) (nets:=nets) (p:=0) hm
 rw [Nat.zero_add,List.getD,hv] at this
 exact a0u this
theorem b5x:∀ {is:List Nat} {vs:List α} {nets:List α} {a:Nat} {v:α},is.length = vs.length → a1e nets (is ++ [a]) (vs ++ [v]) = (a1e nets is vs).set a v
 | [],[],nets,a,v,_=>rfl
 | [],_ :: _,_,_,_,h=>by simp at h
 | _ :: _,[],_,_,_,h=>by simp at h
 | i :: is,w :: vs,nets,a,v,h=>by simp only [List.cons_append,a1e];exact b5x (by simpa using h)
theorem a2d:∀ (is:List Nat) (vs:List α) (nets:List α),(a1e nets is vs).length = nets.length
 | [],vs,nets=>by cases vs<;>rfl
 | i :: is,[],nets=>rfl
 | i :: is,v :: vs,nets=>by simp [a1e,a2d is vs]
theorem a5q {is:List Nat} {vs nets:List α} {i a:Nat} {v:α} (h1:is[i]? = some a) (h2:vs[i]? = some v):a1e nets (is.take (i + 1)) (vs.take (i + 1)) = (a1e nets (is.take i) (vs.take i)).set a v:=by
 rw [a0u h1,a0u h2]
 have l1:=(List.getElem?_eq_some_iff.1 h1).1
 have l2:=(List.getElem?_eq_some_iff.1 h2).1
 exact b5x (by rw [List.length_take,List.length_take];omega)
theorem b8c (nets:List α) (n:Nat):(stepG A nodes h nets n).length = nets.length:=by unfold stepG;simp
theorem a8w (l:List Nat) (nets:List α):(l.foldl (stepG A nodes h) nets).length = nets.length:=by
 induction l generalizing nets with
 | nil=>rfl
 | cons a l ih=>rw [List.foldl_cons,ih,b8c]
theorem a9z (ord ins sts:List Nat) (vi vs:List α):(b20 A nodes h ord ins sts vi vs).length = nodes.length:=by
 unfold b20;rw [a8w,a2d,a2d];simp
theorem b3w {l:List Nat} {nets:List α} {i n:Nat} (hn:l[i]? = some n):(l.take (i + 1)).foldl (stepG A nodes h) nets = stepG A nodes h ((l.take i).foldl (stepG A nodes h) nets) n:=by
 rw [a0u hn,List.foldl_append];rfl
end
end Go.Pc
/- PcLev: levels of nodes; orders in which a40 node stands behind what it c0q. Plain. -/
namespace Go.Pc
open Go.Ax
structure Lev (nodes:List Nd) (lv ready:List Nat) (done:Nat) (L:List (Nat × Nat)):Prop where
 old:∀ a,a < nodes.length → a1o (a0o nodes a) = true → ∀ m ∈ a21 nodes a,m ∈ ready.take done → lv.getD m 0 < lv.getD a 0
 now:∀ l ∈ L,a1o (a0o nodes l.1) = true → ∀ x,ready[done]? = some x → lv.getD x 0 < lv.getD l.1 0
theorem Lev.start (nodes:List Nd) (lv ready:List Nat):Lev nodes lv ready 0 []:=⟨fun a _ _ m _ hm=>by simp at hm,fun l hl=>by simp at hl⟩
section
variable {nodes:List Nd} {lv left ready:List Nat} {done:Nat} {L:List (Nat × Nat)}
theorem Lev.skip (h:Lev nodes lv ready done L) {a p:Nat} (hc:a1o (a0o nodes a) = false):Lev nodes lv ready done (L ++ [(a,p)]):=by
 refine ⟨h.old,fun l hl hcl=>?_⟩
 rcases List.mem_append.1 hl with hl|hl
 ·exact h.now l hl hcl
 ·rw [List.mem_singleton.1 hl] at hcl;rw [hc] at hcl;cases hcl
theorem b2k (lv:List Nat) (a v b:Nat) (ha:a < lv.length):(lv.set a v).getD b 0 = if a = b then v else lv.getD b 0:=by
 simp only [List.getD_eq_getElem?_getD,List.getElem?_set]
 by_cases hab:a = b
 ·subst hab;simp [ha]
 ·simp [hab]
theorem Lev.dec (h:Lev nodes lv ready done L) {a p x va vx:Nat} (hx:ready[done]? = some x) (hna:a ∉ ready) (hva:lv[a]? = some va) (hvx:lv[x]? = some vx) {ready':List Nat} (hr:ready' = ready ∨ ready' = ready ++ [a]) :
 Lev nodes (lv.set a (max va (vx + 1))) ready' done (L ++ [(a,p)]):=by
 have hal:=(List.getElem?_eq_some_iff.1 hva).1
 have hdl:=(List.getElem?_eq_some_iff.1 hx).1
 have hxr:x ∈ ready:=List.mem_of_getElem? hx
 have hax:a ≠ x:=fun e=>hna (e ▸ hxr)
 have ea:lv.getD a 0 = va:=by rw [List.getD,hva];rfl
 have ex:lv.getD x 0 = vx:=by rw [List.getD,hvx];rfl
 have ht:ready'.take done = ready.take done:=by
  rcases hr with rfl|rfl
  ·rfl
  ·exact List.take_append_of_le_length (by omega)
 have hx':ready'[done]? = some x:=by
  rcases hr with rfl|rfl
  ·exact hx
  ·rw [List.getElem?_append_left hdl];exact hx
 have up:∀ b,lv.getD b 0 ≤ (lv.set a (max va (vx + 1))).getD b 0:=by
  intro b;rw [b2k _ _ _ _ hal];split
  ·rename_i e;subst e;rw [ea];exact Nat.le_max_left _ _
  ·exact Nat.le_refl _
 refine ⟨?_,?_⟩
 ·intro b hb hcb m hm hmr
  rw [ht] at hmr
  have hma:a ≠ m:=fun e=>hna (e ▸ List.mem_of_mem_take hmr)
  rw [b2k _ _ _ m hal,if_neg hma]
  exact Nat.lt_of_lt_of_le (h.old b hb hcb m hm hmr) (up b)
 ·intro l hl hcl y hy
  rw [hx'] at hy;cases hy
  rw [b2k _ _ _ x hal,if_neg hax]
  rcases List.mem_append.1 hl with hl|hl
  ·exact Nat.lt_of_lt_of_le (h.now l hl hcl x hx) (up _)
  ·rw [List.mem_singleton.1 hl,b2k _ _ _ _ hal,if_pos rfl,ex]
   exact Nat.lt_of_lt_of_le (Nat.lt_succ_self _) (Nat.le_max_right _ _)
theorem Lev.next (h:Lev nodes lv ready done L) {x:Nat} (hx:ready[done]? = some x) (hL:∀ a,a < nodes.length → cnt L a = (a21 nodes a).count x):Lev nodes lv ready (done + 1) []:=by
 refine ⟨?_,fun l hl=>by simp at hl⟩
 intro a ha hc m hm hmr
 rw [a0u hx] at hmr
 rcases List.mem_append.1 hmr with hmr|hmr
 ·exact h.old a ha hc m hm hmr
 ·rw [List.mem_singleton.1 hmr] at hm ⊢
  have h1:=hL a ha
  have h2:0 < (a21 nodes a).count x:=List.count_pos_iff.2 hm
  rw [← h1] at h2
  unfold Pc.cnt at h2
  obtain ⟨l,hl,rfl⟩:=List.mem_map.1 (List.count_pos_iff.1 h2)
  exact h.now l hl hc x hx
def Rises (nodes:List Nd) (lv:List Nat):Prop:=∀ a,a < nodes.length → a1o (a0o nodes a) = true → ∀ m ∈ a21 nodes a,m < nodes.length → lv.getD m 0 < lv.getD a 0
theorem Lev.all (h:Lev nodes lv ready ready.length []) (hk:Kahn nodes left ready ready.length []) (hall:nodes.length ≤ ready.length):Rises nodes lv:=by
 intro a ha hc m hm hmn
 refine h.old a ha hc m hm ?_
 rw [List.take_length]
 by_cases hmr:m ∈ ready
 ·exact hmr
 ·have hs:=b3g (l:=m :: ready) (T:=List.range nodes.length) (List.nodup_cons.2 ⟨hmr,hk.nd⟩) (fun b hb=>by
   rcases List.mem_cons.1 hb with rfl|hb
   ·simpa using hmn
   ·simpa using hk.rn b hb)
  simp at hs;omega
end
def d9x (nodes:List Nd) (ord:List Nat):Prop:=∀ (i n:Nat),ord[i]? = some n → a1o (a0o nodes n) = true → ∀ m ∈ a21 nodes n,m ∈ ord.take i
theorem Rises.topo {nodes:List Nd} {lv ord:List Nat} (h:Rises nodes lv) (hp:ord.Perm (List.range nodes.length)) (hs:ord.Pairwise fun x y=>lv.getD x 0 ≤ lv.getD y 0) (hin:∀ n,n < nodes.length → ∀ m ∈ a21 nodes n,m < nodes.length):d9x nodes ord:=by
 intro i n hi hc m hm
 have hn:n < nodes.length:=by have:=hp.mem_iff.1 (List.mem_of_getElem? hi);simpa using this
 have hmn:=hin n hn m hm
 obtain ⟨j,hj⟩:=List.mem_iff_getElem?.1 (hp.mem_iff.2 (List.mem_range.2 hmn))
 have hlt:=h n hn hc m hm hmn
 have hil:=(List.getElem?_eq_some_iff.1 hi).1
 have hjl:=(List.getElem?_eq_some_iff.1 hj).1
 by_cases hji:j < i
 ·exact List.mem_iff_getElem?.2 ⟨j,by rw [List.getElem?_take,if_pos hji];exact hj⟩
 ·exfalso
  by_cases hij:i = j
  ·subst hij;rw [hi] at hj;cases hj;omega
  ·have:=List.pairwise_iff_getElem.1 hs i j hil hjl (by omega)
   rw [(List.getElem?_eq_some_iff.1 hi).2,(List.getElem?_eq_some_iff.1 hj).2] at this
   omega
theorem Cir.wf.inAt {c:Cir} (h:c.wf):∀ n,n < c.nodes.length → ∀ m ∈ a21 c.nodes n,m < c.nodes.length:=by
 intro n hn m hm
 obtain ⟨x,hx⟩:∃ x,c.nodes[n]? = some x:=⟨_,List.getElem?_eq_getElem hn⟩
 rw [a1g hx] at hm
 exact h.ins x (List.mem_of_getElem? hx) m hm
/-! ### insertion -/
def SortJ (key:Nat → Nat) (d:List Nat) (i j:Nat):Prop:=∀ p q x y,p < q → q ≤ i → q ≠ j → d[p]? = some x → d[q]? = some y → key x ≤ key y
def SortI (key:Nat → Nat) (d:List Nat) (i:Nat):Prop:=∀ p q x y,p < q → q < i → d[p]? = some x → d[q]? = some y → key x ≤ key y
theorem SortI.start {key:Nat → Nat} {d:List Nat} {i:Nat} (h:SortI key d i):SortJ key d i i:=fun p q x y h1 h2 h3=>h p q x y h1 (by omega)
theorem SortI.one {key:Nat → Nat} {d:List Nat}:SortI key d 1:=fun p q x y h1 h2=>by omega
theorem SortJ.stop {key:Nat → Nat} {d:List Nat} {i j:Nat} (h:SortJ key d i j) (hj:j = 0 ∨ ∃ x y,d[j - 1]? = some x ∧ d[j]? = some y ∧ key x ≤ key y):SortI key d (i + 1):=by
 intro p q x y h1 h2 hx hy
 by_cases hq:q = j
 ·subst hq
  rcases hj with rfl|⟨x',y',h3,h4,h5⟩
  ·omega
  ·rw [hy] at h4;cases h4
   by_cases hp:p = q - 1
   ·subst hp;rw [hx] at h3;cases h3;exact h5
   ·exact Nat.le_trans (h p (q - 1) x x' (by omega) (by omega) (by omega) hx h3) h5
 ·exact h p q x y h1 (by omega) hq hx hy
theorem SortJ.swap {key:Nat → Nat} {d:List Nat} {i j:Nat} (h:SortJ key d i (j + 1)) (hji:j + 1 ≤ i) {x y:Nat} (hx:d[j]? = some x) (hy:d[j + 1]? = some y) (hlt:key y < key x):SortJ key ((d.set (j + 1) x).set j y) i j:=by
 have hjl:=(List.getElem?_eq_some_iff.1 hy).1
 have hg:∀ p,((d.set (j + 1) x).set j y)[p]? = if p = j then some y else if p = j + 1 then some x else d[p]?:=by
  intro p
  rw [List.getElem?_set,List.getElem?_set]
  simp only [List.length_set]
  by_cases h1:j = p
  ·subst h1;simp;omega
  ·by_cases h2:j + 1 = p
   ·subst h2;simp;omega
   ·simp [h1,h2,Ne.symm h1,Ne.symm h2]
 intro p q u v h1 h2 h3 hu hv
 rw [hg] at hu hv
 rw [if_neg h3] at hv
 by_cases hq:q = j + 1
 ·rw [if_pos hq] at hv;cases hv
  by_cases hp:p = j
  ·rw [if_pos hp] at hu;cases hu;omega
  ·rw [if_neg hp,if_neg (by omega)] at hu
   exact h p j u x (by omega) (by omega) (by omega) hu hx
 ·rw [if_neg hq] at hv
  by_cases hp:p = j
  ·rw [if_pos hp] at hu;cases hu
   exact h (j + 1) q y v (by omega) h2 (by omega) hy hv
  ·rw [if_neg hp] at hu
   by_cases hp2:p = j + 1
   ·rw [if_pos hp2] at hu;cases hu
    exact h j q x v (by omega) h2 (by omega) hx hv
   ·rw [if_neg hp2] at hu
    exact h p q u v h1 h2 (by omega) hu hv
theorem SortI.pairwise {key:Nat → Nat} {d:List Nat} (h:SortI key d d.length):d.Pairwise fun x y=>key x ≤ key y:=by
 rw [List.pairwise_iff_getElem]
 intro i j hi hj hij
 exact h i j _ _ hij hj (List.getElem?_eq_getElem hi) (List.getElem?_eq_getElem hj)
end Go.Pc
/- PcLog: gates over the values 0, 1, X and Z; they are the gates over pairs of bits. Plain. -/
namespace Go.Pc
open Go.Ax
def a4x (v:Nat):Nat:=min v 2
def b2f (v:Nat):Nat:=if v ≤ 1 then 1 - v else 2
def a6r (low high:Nat):Nat → List Nat → Nat
 | out,[]=>out
 | out,v :: r=>if v = low then low else a6r low high (if v = high then out else 2) r
def b58:Nat → List Nat → Nat
 | out,[]=>out
 | out,v :: r=>if v ≤ 1 then b58 (out ^^^ v) r else 2
def b8u (s a b:Nat):Nat:=if s = 0 then a4x a else if s = 1 then a4x b else if a = b then a4x a else 2
def c0v (e d:Nat):Nat:=if e = 0 then 3 else if e = 1 then a4x d else 2
def d4i (l:List Nat):Nat:=match l.findIdx? (fun v=>decide (v ≠ 3)) with
 | none=>3
 | some i=>if (decide (0 ∈ l) && decide (1 ∈ l)) || l.any (fun v=>decide (a25 v = 2)) then 2 else l.getD i 0
def a49 (k:Nat) (l:List Nat):Nat:=match k with
 | 1=>0
 | 2=>1
 | 3=>a4x (l.getD 0 2)
 | 4=>b2f (l.getD 0 2)
 | 5=>a6r 0 1 1 l
 | 6=>b2f (a6r 0 1 1 l)
 | 7=>a6r 1 0 0 l
 | 8=>b2f (a6r 1 0 0 l)
 | 9=>b58 0 l
 | 10=>b2f (b58 0 l)
 | 11=>b8u (l.getD 0 2) (l.getD 1 2) (l.getD 2 2)
 | 12=>c0v (l.getD 0 2) (l.getD 1 2)
 | 13=>d4i l
 | _=>2
def a4k (k:Nat) (l:List Nat):Nat:=if l.length < a1h k ∨ a1i k < l.length then 2 else a49 k l
def vR (v:Nat):V2:=b6q (a0i v)
theorem c1b (P:Nat → Prop) (h0:P 0) (h1:P 1) (h2:P 2) (h3:P 3) {v:Nat} (hv:v ≤ 3):P v:=by
 have:v = 0 ∨ v = 1 ∨ v = 2 ∨ v = 3:=by omega
 rcases this with rfl|rfl|rfl|rfl<;>assumption
theorem c3m {v:Nat} (hv:v ≤ 3):a0i (a4x v) = b6q (a0i v) ∧ a4x v ≤ 3:=
 c1b (fun v=>a0i (a4x v) = b6q (a0i v) ∧ a4x v ≤ 3) (by decide) (by decide) (by decide) (by decide) hv
theorem c6w {v:Nat} (hv:v ≤ 3):a0i (b2f v) = c5k (b6q (a0i v)) ∧ b2f v ≤ 3:=
 c1b (fun v=>a0i (b2f v) = c5k (b6q (a0i v)) ∧ b2f v ≤ 3) (by decide) (by decide) (by decide) (by decide) hv
theorem b12 {v:Nat} (hv:v ≤ 2):a0i (b2f v) = c5k (a0i v) ∧ b2f v ≤ 3:=by
 have:v = 0 ∨ v = 1 ∨ v = 2:=by omega
 rcases this with rfl|rfl|rfl<;>decide
theorem c9l:∀ (l:List V2),l.foldl c0f (false,true) = (false,true)
 | []=>rfl
 | a :: l=>by rw [List.foldl_cons,show c0f (false,true) a = (false,true) by simp [c0f]];exact c9l l
theorem d4f:∀ (l:List V2),l.foldl vOr (true,false) = (true,false)
 | []=>rfl
 | a :: l=>by rw [List.foldl_cons,show vOr (true,false) a = (true,false) by simp [vOr]];exact d4f l
theorem c0a:∀ (l:List V2),l.foldl c0d (false,false) = (false,false)
 | []=>rfl
 | a :: l=>by rw [List.foldl_cons,show c0d (false,false) a = (false,false) by simp [c0d]];exact c0a l
theorem b0n:∀ (l:List Nat) (out:Nat),(out = 1 ∨ out = 2) → (∀ v ∈ l,v ≤ 3) → (l.map vR).foldl c0f (a0i out) = a0i (a6r 0 1 out l) ∧ a6r 0 1 out l ≤ 2
 | [],out,ho,_=>by rcases ho with rfl|rfl<;>decide
 | v :: l,out,ho,hv=>by
  have hl:=fun v h=>hv v (List.mem_cons_of_mem _ h)
  rw [List.map_cons,List.foldl_cons]
  refine c1b (fun v=>(l.map vR).foldl c0f (c0f (a0i out) (vR v)) = a0i (a6r 0 1 out (v :: l)) ∧ a6r 0 1 out (v :: l) ≤ 2) ?_ ?_ ?_ ?_ (hv v (List.mem_cons_self ..))
  ·have:c0f (a0i out) (vR 0) = (false,true):=by rcases ho with rfl|rfl<;>decide
   rw [this,c9l];simp only [a6r,if_true];decide
  ·have:c0f (a0i out) (vR 1) = a0i out:=by rcases ho with rfl|rfl<;>decide
   rw [this];simp only [a6r];exact b0n l out ho hl
  ·have:c0f (a0i out) (vR 2) = a0i 2:=by rcases ho with rfl|rfl<;>decide
   rw [this];simp only [a6r];exact b0n l 2 (.inr rfl) hl
  ·have:c0f (a0i out) (vR 3) = a0i 2:=by rcases ho with rfl|rfl<;>decide
   rw [this];simp only [a6r];exact b0n l 2 (.inr rfl) hl
theorem b33:∀ (l:List Nat) (out:Nat),(out = 0 ∨ out = 2) → (∀ v ∈ l,v ≤ 3) → (l.map vR).foldl vOr (a0i out) = a0i (a6r 1 0 out l) ∧ a6r 1 0 out l ≤ 2
 | [],out,ho,_=>by rcases ho with rfl|rfl<;>decide
 | v :: l,out,ho,hv=>by
  have hl:=fun v h=>hv v (List.mem_cons_of_mem _ h)
  rw [List.map_cons,List.foldl_cons]
  refine c1b (fun v=>(l.map vR).foldl vOr (vOr (a0i out) (vR v)) = a0i (a6r 1 0 out (v :: l)) ∧ a6r 1 0 out (v :: l) ≤ 2) ?_ ?_ ?_ ?_ (hv v (List.mem_cons_self ..))
  ·have:vOr (a0i out) (vR 0) = a0i out:=by rcases ho with rfl|rfl<;>decide
   rw [this];simp only [a6r];exact b33 l out ho hl
  ·have:vOr (a0i out) (vR 1) = (true,false):=by rcases ho with rfl|rfl<;>decide
   rw [this,d4f];simp only [a6r,if_true];decide
  ·have:vOr (a0i out) (vR 2) = a0i 2:=by rcases ho with rfl|rfl<;>decide
   rw [this];simp only [a6r];exact b33 l 2 (.inr rfl) hl
  ·have:vOr (a0i out) (vR 3) = a0i 2:=by rcases ho with rfl|rfl<;>decide
   rw [this];simp only [a6r];exact b33 l 2 (.inr rfl) hl
theorem b25:∀ (l:List Nat) (out:Nat),(out = 0 ∨ out = 1) → (∀ v ∈ l,v ≤ 3) → (l.map vR).foldl c0d (a0i out) = a0i (b58 out l) ∧ b58 out l ≤ 2
 | [],out,ho,_=>by rcases ho with rfl|rfl<;>decide
 | v :: l,out,ho,hv=>by
  have hl:=fun v h=>hv v (List.mem_cons_of_mem _ h)
  rw [List.map_cons,List.foldl_cons]
  refine c1b (fun v=>(l.map vR).foldl c0d (c0d (a0i out) (vR v)) = a0i (b58 out (v :: l)) ∧ b58 out (v :: l) ≤ 2) ?_ ?_ ?_ ?_ (hv v (List.mem_cons_self ..))
  ·have:c0d (a0i out) (vR 0) = a0i out:=by rcases ho with rfl|rfl<;>decide
   rw [this];simp only [b58,Nat.xor_zero];exact b25 l out ho hl
  ·have:c0d (a0i out) (vR 1) = a0i (out ^^^ 1):=by rcases ho with rfl|rfl<;>decide
   rw [this];simp only [b58];exact b25 l (out ^^^ 1) (by rcases ho with rfl|rfl<;>decide) hl
  ·have:c0d (a0i out) (vR 2) = (false,false):=by rcases ho with rfl|rfl<;>decide
   rw [this,c0a];exact ⟨rfl,by show (2:Nat) ≤ 2;decide⟩
  ·have:c0d (a0i out) (vR 3) = (false,false):=by rcases ho with rfl|rfl<;>decide
   rw [this,c0a];exact ⟨rfl,by show (2:Nat) ≤ 2;decide⟩
theorem d1f {s a b:Nat} (hs:s ≤ 3) (ha:a ≤ 3) (hb:b ≤ 3):a0i (b8u s a b) = d8x (vR s) (vR a) (vR b) ∧ b8u s a b ≤ 3:=by
 have h:∀ s:Fin 4,∀ a:Fin 4,∀ b:Fin 4,a0i (b8u s a b) = d8x (vR s) (vR a) (vR b) ∧ b8u s a b ≤ 3:=by decide
 exact h ⟨s,by omega⟩ ⟨a,by omega⟩ ⟨b,by omega⟩
theorem d0g {e d:Nat} (he:e ≤ 3) (hd:d ≤ 3):a0i (c0v e d) = d8w (vR e) (vR d) ∧ c0v e d ≤ 3:=by
 have h:∀ e:Fin 4,∀ d:Fin 4,a0i (c0v e d) = d8w (vR e) (vR d) ∧ c0v e d ≤ 3:=by decide
 exact h ⟨e,by omega⟩ ⟨d,by omega⟩
theorem d4t:∀ (l:List Nat) (s:Bool × Bool × Bool),(∀ v ∈ l,v ≤ 3) → (l.map a0i).foldl b6p s = (s.1 || decide (1 ∈ l),s.2.1 || decide (0 ∈ l),s.2.2 || decide (2 ∈ l))
 | [],s,_=>by simp
 | v :: l,s,hv=>by
  have hl:=fun v h=>hv v (List.mem_cons_of_mem _ h)
  rw [List.map_cons,List.foldl_cons,d4t l _ hl]
  obtain ⟨a,b,c⟩:=s
  refine c1b (fun v=>((b6p (a,b,c) (a0i v)).1 || decide (1 ∈ l),(b6p (a,b,c) (a0i v)).2.1 || decide (0 ∈ l),(b6p (a,b,c) (a0i v)).2.2 || decide (2 ∈ l)) = (a || decide (1 ∈ v :: l),b || decide (0 ∈ v :: l),c || decide (2 ∈ v :: l))) ?_ ?_ ?_ ?_ (hv v (List.mem_cons_self ..)) <;>
   simp [b6p,a0i,a25,List.mem_cons]
theorem d39 (l:List Nat) (hv:∀ v ∈ l,v ≤ 3):a0i (d4i l) = e01 (l.map a0i) ∧ d4i l ≤ 3:=by
 have hx:l.any (fun v=>decide (a25 v = 2)) = decide (2 ∈ l):=by
  rw [Bool.eq_iff_iff,List.any_eq_true,decide_eq_true_eq]
  constructor
  ·rintro ⟨v,h,hc⟩
   have h3:=hv v h
   have:v = 2:=by
    revert hc h3;revert v
    intro v _ hc h3
    exact c1b (fun v=>decide (a25 v = 2) = true → v = 2) (by decide) (by decide) (by decide) (by decide) h3 hc
   exact this ▸ h
  ·intro h;exact ⟨2,h,by decide⟩
 unfold e01 d4i
 rw [d4t l _ hv,hx]
 cases hf:l.findIdx? (fun v=>decide (v ≠ 3)) with
 | none=>
  have hn:=List.findIdx?_eq_none_iff.1 hf
  have h1:∀ k,k ≠ 3 → k ∉ l:=fun k hk hm=>by have:=hn k hm;simp [hk] at this
  simp only [h1 0 (by decide),h1 1 (by decide),h1 2 (by decide),decide_false,Bool.or_false]
  decide
 | some i=>
  obtain ⟨hi,hp,_⟩:=List.findIdx?_eq_some_iff_getElem.1 hf
  have hm:l.getD i 0 ∈ l:=by rw [List.getD,List.getElem?_eq_getElem hi];exact List.getElem_mem hi
  have he:l.getD i 0 ≠ 3:=by rw [List.getD,List.getElem?_eq_getElem hi];simpa using hp
  have h3:=hv _ hm
  show a0i (if _ then 2 else l.getD i 0) = _ ∧ (if _ then 2 else l.getD i 0) ≤ 3
  generalize l.getD i 0 = w at hm he h3 ⊢
  have hw:w = 0 ∨ w = 1 ∨ w = 2:=by omega
  simp only [Bool.false_or]
  by_cases h2:2 ∈ l
  ·simp only [h2,decide_true,Bool.or_true,if_true]
   cases decide (1 ∈ l)<;>cases decide (0 ∈ l)<;>decide
  ·simp only [h2,decide_false,Bool.or_false]
   rcases hw with rfl|rfl|rfl
   ·simp only [hm,decide_true,Bool.true_and]
    cases decide (1 ∈ l)<;>decide
   ·simp only [hm,decide_true,Bool.and_true]
    cases decide (0 ∈ l)<;>decide
   ·exact absurd hm h2
theorem e5l (l:List Nat):(l.map a0i).map b6q = l.map vR:=by rw [List.map_map];rfl
theorem a9f (l:List Nat) (i:Nat) (hi:i < l.length):(l.map vR).getD i (false,false) = vR (l.getD i 2):=by
 simp only [List.getD_eq_getElem?_getD,List.getElem?_map,List.getElem?_eq_getElem hi,Option.map_some,Option.getD_some]
theorem d73 (l:List Nat) (hv:∀ v ∈ l,v ≤ 3) (i:Nat):l.getD i 2 ≤ 3:=by
 simp only [List.getD_eq_getElem?_getD]
 cases h:l[i]? with
 | none=>decide
 | some v=>exact hv v (List.mem_of_getElem? h)
theorem b9e (k:Nat) (l:List Nat) (hv:∀ v ∈ l,v ≤ 3):a0i (a4k k l) = c0e k (l.map a0i) ∧ a4k k l ≤ 3:=by
 unfold a4k c0e
 rw [List.length_map]
 split
 ·decide
 rename_i hlen
 have lo:a1h k ≤ l.length:=by omega
 by_cases h13:k = 13
 ·subst h13;rw [if_pos rfl];exact d39 l hv
 rw [if_neg h13,e5l]
 have g:=d73 l hv
 unfold a49
 split
 ·exact ⟨rfl,by decide⟩
 ·exact ⟨rfl,by decide⟩
 ·show a0i (a4x (l.getD 0 2)) = (l.map vR).getD 0 (false,false) ∧ _
  rw [a9f _ _ (Nat.lt_of_lt_of_le (by decide) lo)];exact c3m (g 0)
 ·show a0i (b2f (l.getD 0 2)) = c5k ((l.map vR).getD 0 (false,false)) ∧ _
  rw [a9f _ _ (Nat.lt_of_lt_of_le (by decide) lo)];exact c6w (g 0)
 ·have:=b0n l 1 (.inl rfl) hv;exact ⟨this.1.symm,by omega⟩
 ·have:=b0n l 1 (.inl rfl) hv
  show a0i (b2f (a6r 0 1 1 l)) = c5k ((l.map vR).foldl c0f (a0i 1)) ∧ _
  rw [this.1];exact b12 this.2
 ·have:=b33 l 0 (.inl rfl) hv;exact ⟨this.1.symm,by omega⟩
 ·have:=b33 l 0 (.inl rfl) hv
  show a0i (b2f (a6r 1 0 0 l)) = c5k ((l.map vR).foldl vOr (a0i 0)) ∧ _
  rw [this.1];exact b12 this.2
 ·have:=b25 l 0 (.inl rfl) hv;exact ⟨this.1.symm,by omega⟩
 ·have:=b25 l 0 (.inl rfl) hv
  show a0i (b2f (b58 0 l)) = c5k ((l.map vR).foldl c0d (a0i 0)) ∧ _
  rw [this.1];exact b12 this.2
 ·show a0i (b8u (l.getD 0 2) (l.getD 1 2) (l.getD 2 2)) = d8x ((l.map vR).getD 0 (false,false)) ((l.map vR).getD 1 (false,false)) ((l.map vR).getD 2 (false,false)) ∧ _
  rw [a9f _ _ (Nat.lt_of_lt_of_le (by decide) lo),a9f _ _ (Nat.lt_of_lt_of_le (by decide) lo),a9f _ _ (Nat.lt_of_lt_of_le (by decide) lo)];exact d1f (g 0) (g 1) (g 2)
 ·show a0i (c0v (l.getD 0 2) (l.getD 1 2)) = d8w ((l.map vR).getD 0 (false,false)) ((l.map vR).getD 1 (false,false)) ∧ _
  rw [a9f _ _ (Nat.lt_of_lt_of_le (by decide) lo),a9f _ _ (Nat.lt_of_lt_of_le (by decide) lo)];exact d0g (g 0) (g 1)
 ·exact absurd rfl h13
 ·refine ⟨?_,by decide⟩
  unfold c1s
  split<;>first|rfl|(exfalso;simp_all)
end Go.Pc
/- PcTwo: the simulation over values; what is laid into the nets before it begins does not matter. Plain. -/
namespace Go.Pc
open Go.Ax
theorem c51 (v:Nat):a0i (a25 v) = a0i v:=by
 unfold a0i
 have:a25 (a25 v) = a25 v:=by unfold a25;split<;>simp<;>omega
 rw [this]
theorem c37 (v:Nat):a25 v ≤ 3:=by unfold a25;split<;>omega
theorem c38 {v:Nat} (h:v ≤ 3):a25 v = v:=by unfold a25;rw [if_neg (by omega)]
theorem b3a {l:List Nat} (h:∀ v ∈ l,v ≤ 3):l.map a25 = l:=by
 have:=List.map_congr_left (f:=a25) (g:=fun v=>v) (l:=l) (fun v hv=>c38 (h v hv))
 rw [this,List.map_id']
def nAlg:Alg Nat:=⟨fun k l=>a4k k (l.map a25),0,fun v=>v⟩
def vAlg0:Alg V2:=⟨c0e,a0i 0,a0i⟩
theorem e0z:Hom nAlg vAlg0 a0i:=by
 refine ⟨fun k l=>?_,rfl,fun v=>rfl⟩
 have h:=(b9e k (l.map a25) (fun v hv=>by obtain ⟨w,_,rfl⟩:=List.mem_map.1 hv;exact c37 w)).1
 show a0i (a4k k (l.map a25)) = c0e k (l.map a0i)
 rw [h,List.map_map]
 congr 1
 exact List.map_congr_left fun v _=>c51 v
theorem c2b (k:Nat) (l:List Nat) (h:∀ v ∈ l,v ≤ 3):a4k k l ≤ 3:=(b9e k l h).2
section
variable {α:Type} {A B:Alg α} (hev:A.ev = B.ev) {nodes:List Nd} {h:Hk α}
def Agr (P:Nat → Prop) (a b:List α):Prop:=a.length = b.length ∧ ∀ n,P n → a[n]? = b[n]?
theorem b3d:∀ (is:List Nat) (vs:List α) (a b:List α) (P:Nat → Prop),Agr P a b → (∀ i ∈ is,i < a.length) → is.length = vs.length → Agr (fun n=>P n ∨ n ∈ is) (a1e a is vs) (a1e b is vs)
 | [],vs,a,b,P,hab,_,_=>by
  cases vs<;>exact ⟨hab.1,fun n hn=>hab.2 n (by simpa using hn)⟩
 | i :: is,[],a,b,P,hab,_,hl=>by simp at hl
 | i :: is,v :: vs,a,b,P,hab,hlt,hl=>by
  simp only [a1e]
  have:=b3d is vs (a.set i v) (b.set i v) (fun n=>P n ∨ n = i) ⟨by simp [hab.1],fun n hn=>by
   rw [List.getElem?_set,List.getElem?_set,← hab.1]
   by_cases hi:i = n
   ·simp [hi]
   ·rw [if_neg hi,if_neg hi]
    rcases hn with hn|hn
    ·exact hab.2 n hn
    ·exact absurd hn.symm hi⟩ (fun j hj=>by rw [List.length_set];exact hlt j (List.mem_cons_of_mem _ hj)) (by simpa using hl)
  refine ⟨this.1,fun n hn=>this.2 n ?_⟩
  rcases hn with hn|hn
  ·exact .inl (.inl hn)
  ·rcases List.mem_cons.1 hn with rfl|hn
   ·exact .inl (.inr rfl)
   ·exact .inr hn
theorem a9d (n:Nat) (a b:List α) (hl:a.length = b.length):∀ (l:List Nat) (p:Nat),(∀ m ∈ l,m < a.length ∧ a[m]? = b[m]?) → a34 A h n a p l = a34 B h n b p l
 | [],_,_=>rfl
 | m :: r,p,hm=>by
  obtain ⟨h1,h2⟩:=hm m (List.mem_cons_self ..)
  simp only [a34,a9d n a b hl r (p + 1) (fun x hx=>hm x (List.mem_cons_of_mem _ hx))]
  congr 2
  rw [List.getD,List.getD,← h2,List.getElem?_eq_getElem h1];rfl
include hev in
theorem c2v (S:Nat → Prop):∀ (ord done:List Nat) (a b:List α),Agr (fun n=>n ∈ done ∨ S n) a b → a.length = nodes.length → (∀ n ∈ ord,n < nodes.length) → (∀ n ∈ ord,a0o nodes n = 0 ∨ a0o nodes n = 14 → S n) →
 (∀ (i n:Nat),ord[i]? = some n → a0o nodes n ≠ 0 ∧ a0o nodes n ≠ 14 → ∀ m ∈ a21 nodes n,m < nodes.length ∧ (m ∈ done ∨ m ∈ ord.take i)) →
 Agr (fun n=>n ∈ done ∨ n ∈ ord ∨ S n) (ord.foldl (stepG A nodes h) a) (ord.foldl (stepG B nodes h) b)
 | [],done,a,b,hab,hl,_,_,_=>⟨hab.1,fun n hn=>hab.2 n (by simpa using hn)⟩
 | x :: ord,done,a,b,hab,hl,hlt,hS,ht=>by
  rw [List.foldl_cons,List.foldl_cons]
  have hx:=hlt x (List.mem_cons_self ..)
  have hst:(if a0o nodes x ≠ 0 ∧ a0o nodes x ≠ 14 then A.ev (a0o nodes x) (a0n A nodes h a x) else a.getD x A.z) = (if a0o nodes x ≠ 0 ∧ a0o nodes x ≠ 14 then B.ev (a0o nodes x) (a0n B nodes h b x) else b.getD x B.z):=by
   by_cases hk:a0o nodes x ≠ 0 ∧ a0o nodes x ≠ 14
   ·rw [if_pos hk,if_pos hk,hev]
    congr 1
    refine a9d x a b hab.1 _ 0 (fun m hm=>?_)
    obtain ⟨h1,h2⟩:=ht 0 x rfl hk m hm
    refine ⟨by omega,hab.2 m (.inl ?_)⟩
    rcases h2 with h2|h2
    ·exact h2
    ·simp at h2
   ·rw [if_neg hk,if_neg hk]
    have h1:=hab.2 x (.inr (hS x (List.mem_cons_self ..) (by omega)))
    rw [List.getD,List.getD,← h1,List.getElem?_eq_getElem (by omega)];rfl
  have hstep:Agr (fun n=>n ∈ x :: done ∨ S n) (stepG A nodes h a x) (stepG B nodes h b x):=by
   unfold stepG
   rw [hst]
   refine ⟨by simp [hab.1],fun n hn=>?_⟩
   rw [List.getElem?_set,List.getElem?_set,← hab.1]
   by_cases hi:x = n
   ·simp [hi]
   ·rw [if_neg hi,if_neg hi]
    refine hab.2 n ?_
    rcases hn with hn|hn
    ·rcases List.mem_cons.1 hn with rfl|hn
     ·exact absurd rfl hi
     ·exact .inl hn
    ·exact .inr hn
  have:=c2v S ord (x :: done) _ _ hstep (by rw [b8c];exact hl) (fun n hn=>hlt n (List.mem_cons_of_mem _ hn)) (fun n hn=>hS n (List.mem_cons_of_mem _ hn)) (fun i n hi hk m hm=>by
   obtain ⟨h1,h2⟩:=ht (i + 1) n (by simpa using hi) hk m hm
   refine ⟨h1,?_⟩
   rcases h2 with h2|h2
   ·exact .inl (List.mem_cons_of_mem _ h2)
   ·rw [List.take_succ_cons] at h2
    rcases List.mem_cons.1 h2 with rfl|h2
    ·exact .inl (List.mem_cons_self ..)
    ·exact .inr h2)
  refine ⟨this.1,fun n hn=>this.2 n ?_⟩
  rcases hn with hn|hn|hn
  ·exact .inl (List.mem_cons_of_mem _ hn)
  ·rcases List.mem_cons.1 hn with rfl|hn
   ·exact .inl (List.mem_cons_self ..)
   ·exact .inr (.inl hn)
  ·exact .inr (.inr hn)
include hev in
theorem d6f {ord ins sts:List Nat} {vi vs:List α} (hp:ord.Perm (List.range nodes.length)) (ht:d9x nodes ord) (hcomb:∀ n,n < nodes.length → a0o nodes n ≠ 0 ∧ a0o nodes n ≠ 14 → a1o (a0o nodes n) = true)
 (hin:∀ n,n < nodes.length → ∀ m ∈ a21 nodes n,m < nodes.length) (hi:∀ n,n < nodes.length → a0o nodes n = 0 → n ∈ ins) (hs:∀ n,n < nodes.length → a0o nodes n = 14 → n ∈ sts)
 (hil:∀ i ∈ ins,i < nodes.length) (hsl:∀ i ∈ sts,i < nodes.length) (hvi:ins.length = vi.length) (hvs:sts.length = vs.length):b20 A nodes h ord ins sts vi vs = b20 B nodes h ord ins sts vi vs:=by
 have h0:Agr (fun _=>False) (List.replicate nodes.length A.z) (List.replicate nodes.length B.z):=⟨by simp,fun n hn=>hn.elim⟩
 have h1:=b3d ins vi _ _ _ h0 (fun i hh=>by simpa using hil i hh) hvi
 have h2:=b3d sts vs _ _ _ h1 (fun i hh=>by rw [a2d];simpa using hsl i hh) hvs
 have hlen:(a1e (a1e (List.replicate nodes.length A.z) ins vi) sts vs).length = nodes.length:=by rw [a2d,a2d];simp
 have hmem:∀ n,n ∈ ord ↔ n < nodes.length:=fun n=>by rw [hp.mem_iff];simp
 have h3:=c2v (nodes:=nodes) (h:=h) hev (fun n=>(False ∨ n ∈ ins) ∨ n ∈ sts) ord [] _ _ ⟨h2.1,fun n hn=>h2.2 n (by simpa using hn)⟩ hlen (fun n hn=>(hmem n).1 hn) (fun n hn hk=>by
  have hn:=(hmem n).1 hn
  rcases hk with hk|hk
  ·exact .inl (.inr (hi n hn hk))
  ·exact .inr (hs n hn hk)) (fun i n hin' hk m hm=>by
  have hn:=(hmem n).1 (List.mem_of_getElem? hin')
  exact ⟨hin n hn m hm,.inr (ht i n hin' (hcomb n hn hk) m hm)⟩)
 unfold b20
 apply List.ext_getElem?
 intro n
 by_cases hn:n < nodes.length
 ·exact h3.2 n (.inr (.inl ((hmem n).2 hn)))
 ·rw [List.getElem?_eq_none (by rw [a8w,hlen];omega),List.getElem?_eq_none (by rw [a8w,← h2.1,hlen];omega)]
omit hev in
theorem d5q {outs sts:List Nat} {nets:List α} (ho:∀ n ∈ outs,n < nets.length) (hs:∀ n ∈ sts,a21 nodes n ≠ [] ∧ ∀ m ∈ a21 nodes n,m < nets.length):b2s A nodes h outs sts nets = b2s B nodes h outs sts nets:=by
 unfold b2s
 congr 1
 ·exact List.map_congr_left fun n hn=>by rw [List.getD,List.getD,List.getElem?_eq_getElem (ho n hn)];rfl
 ·refine List.map_congr_left fun n hn=>?_
  obtain ⟨h1,h2⟩:=hs n hn
  have e:a0n A nodes h nets n = a0n B nodes h nets n:=a9d n nets nets rfl _ 0 (fun m hm=>⟨h2 m hm,rfl⟩)
  rw [e]
  have hl:0 < (a0n B nodes h nets n).length:=by rw [a3s];exact List.length_pos_iff.2 h1
  rw [List.getD,List.getD,List.getElem?_eq_getElem hl];rfl
end
end Go.Pc
/- PcDet: what a pattern detects, by values: the responses of the two runs contradict each other. Plain. -/
namespace Go.Pc
open Go.Ax
def f6t (x y:Nat):Bool:=decide (x ≤ 1) && decide (y ≤ 1) && decide (x ≠ y)
def b1u:List Nat → List Nat → Bool
 | x :: xs,y :: ys=>f6t x y || b1u xs ys
 | _,_=>false
theorem d35 {x y:Nat} (hx:x ≤ 3) (hy:y ≤ 3):e2m (a0i x) (a0i y) = f6t x y:=by
 have h:∀ x:Fin 4,∀ y:Fin 4,e2m (a0i x) (a0i y) = f6t x y:=by decide
 exact h ⟨x,by omega⟩ ⟨y,by omega⟩
theorem d34 {x y:Nat} (hx:x ≤ 3) (hy:y ≤ 3):f6t (a4x x) (if y = 3 then 2 else y) = f6t x y:=by
 have h:∀ x:Fin 4,∀ y:Fin 4,f6t (a4x x) (if (y:Nat) = 3 then 2 else y) = f6t x y:=by decide
 exact h ⟨x,by omega⟩ ⟨y,by omega⟩
theorem b5a:∀ (a b:List Nat) (s:Bool),(∀ v ∈ a,v ≤ 3) → (∀ v ∈ b,v ≤ 3) → b88 (a.map a0i) (b.map a0i) s = (s || b1u a b)
 | [],b,s,_,_=>by cases b<;>simp [b88,b1u]
 | x :: xs,[],s,_,_=>by simp [b88,b1u]
 | x :: xs,y :: ys,s,ha,hb=>by
  simp only [List.map_cons,b88,b1u]
  rw [b5a xs ys _ (fun v h=>ha v (List.mem_cons_of_mem _ h)) (fun v h=>hb v (List.mem_cons_of_mem _ h)),d35 (ha x (List.mem_cons_self ..)) (hb y (List.mem_cons_self ..)),Bool.or_assoc]
theorem b4b:∀ (a b c d:List Nat),a.length = b.length → b1u (a ++ c) (b ++ d) = (b1u a b || b1u c d)
 | [],[],c,d,_=>by simp [b1u]
 | [],_ :: _,_,_,h=>by simp at h
 | _ :: _,[],_,_,h=>by simp at h
 | x :: xs,y :: ys,c,d,h=>by
  simp only [List.cons_append,b1u]
  rw [b4b xs ys c d (by simpa using h),Bool.or_assoc]
theorem c34 {α:Type} (f g f' g':α → Nat):∀ (l:List α),(∀ x ∈ l,f6t (f x) (g x) = f6t (f' x) (g' x)) → b1u (l.map f) (l.map g) = b1u (l.map f') (l.map g')
 | [],_=>rfl
 | x :: l,h=>by
  simp only [List.map_cons,b1u]
  rw [h x (List.mem_cons_self ..),c34 f g f' g' l (fun y hy=>h y (List.mem_cons_of_mem _ hy))]
def a7l (nodes:List Nd) (h:Hk Nat) (nets:List Nat) (sts:List Nat):List Nat:=sts.map fun n=>if (a0n nAlg nodes h nets n).getD 0 0 = 3 then 2 else (a0n nAlg nodes h nets n).getD 0 0
def d3v (h:Hk Nat):Prop:=(∀ n v,v ≤ 3 → h.net n v ≤ 3) ∧ ∀ n p v,v ≤ 3 → h.pin n p v ≤ 3
theorem c83:d3v f6x:=⟨fun _ _ h=>h,fun _ _ _ h=>h⟩
theorem d4l {f:Flt} {v:Nat} (h:v ≤ 3):d3v (hkF f v):=by
 constructor
 ·intro n w hw;unfold hkF;dsimp only;split
  ·exact h
  ·exact hw
 ·intro n p w hw;unfold hkF;dsimp only;split
  ·exact h
  ·exact hw
theorem a6j {l:List Nat} (h:∀ v ∈ l,v ≤ 3) (n:Nat):l.getD n 0 ≤ 3:=by
 rw [List.getD]
 cases hn:l[n]? with
 | none=>decide
 | some v=>exact h v (List.mem_of_getElem? hn)
theorem c23 {h:Hk Nat} (hh:d3v h) {nets:List Nat} (hn:∀ v ∈ nets,v ≤ 3) (n:Nat):∀ (l:List Nat) (p:Nat),∀ v ∈ a34 nAlg h n nets p l,v ≤ 3
 | [],p,v,hv=>by simp [a34] at hv
 | m :: l,p,v,hv=>by
  simp only [a34,List.mem_cons] at hv
  rcases hv with rfl|hv
  ·exact hh.2 _ _ _ (a6j hn m)
  ·exact c23 hh hn n l (p + 1) v hv
theorem c70 (k:Nat) (l:List Nat):nAlg.ev k l ≤ 3:=c2b k _ (fun v hv=>by obtain ⟨w,_,rfl⟩:=List.mem_map.1 hv;exact c37 w)
theorem c60 {nodes:List Nd} {h:Hk Nat} (hh:d3v h) {nets:List Nat} (hn:∀ v ∈ nets,v ≤ 3) (n:Nat):∀ v ∈ stepG nAlg nodes h nets n,v ≤ 3:=by
 intro v hv
 unfold stepG at hv
 rcases List.mem_or_eq_of_mem_set hv with h1|h1
 ·exact hn v h1
 ·rw [h1]
  refine hh.1 _ _ ?_
  split
  ·exact c70 _ _
  ·exact a6j hn n
theorem c8e {nodes:List Nd} {h:Hk Nat} (hh:d3v h):∀ (ord:List Nat) (nets:List Nat),(∀ v ∈ nets,v ≤ 3) → ∀ v ∈ ord.foldl (stepG nAlg nodes h) nets,v ≤ 3
 | [],nets,hn=>hn
 | x :: ord,nets,hn=>by rw [List.foldl_cons];exact c8e hh ord _ (c60 hh hn x)
theorem b3b:∀ (is vs N:List Nat),(∀ v ∈ N,v ≤ 3) → (∀ v ∈ vs,v ≤ 3) → ∀ v ∈ a1e N is vs,v ≤ 3
 | [],vs,N,h,_=>by cases vs<;>exact h
 | _ :: _,[],N,h,_=>h
 | i :: is,w :: vs,N,h,hv=>by
  simp only [a1e]
  refine b3b is vs _ (fun v hm=>?_) (fun v hm=>hv v (List.mem_cons_of_mem _ hm))
  rcases List.mem_or_eq_of_mem_set hm with h1|h1
  ·exact h v h1
  ·rw [h1];exact hv w (List.mem_cons_self ..)
theorem b7c {nodes:List Nd} {h:Hk Nat} (hh:d3v h) (ord ins sts vi vs:List Nat) (hi:∀ v ∈ vi,v ≤ 3) (hs:∀ v ∈ vs,v ≤ 3):∀ v ∈ b20 nAlg nodes h ord ins sts vi vs,v ≤ 3:=
 c8e hh _ _ (b3b _ _ _ (b3b _ _ _ (fun v hv=>by rw [List.eq_of_mem_replicate hv];show (0:Nat) ≤ 3;decide) hi) hs)
structure Sim.good (S:Sim):Prop where
 perm:S.ord.Perm (List.range S.nodes.length)
 topo:d9x S.nodes S.ord
 comb:∀ n,n < S.nodes.length → a0o S.nodes n ≠ 0 ∧ a0o S.nodes n ≠ 14 → a1o (a0o S.nodes n) = true
 inn:∀ n,n < S.nodes.length → ∀ m ∈ a21 S.nodes n,m < S.nodes.length
 ins:∀ n,n ∈ S.ins ↔ n < S.nodes.length ∧ a0o S.nodes n = 0
 sts:∀ n,n ∈ S.sts ↔ n < S.nodes.length ∧ a0o S.nodes n = 14
 dff:∀ n ∈ S.sts,a21 S.nodes n ≠ []
 outs:∀ n ∈ S.outs,n < S.nodes.length
section
variable {S:Sim} (hS:S.good) {p:Pat} (hpi:S.ins.length = p.ins.length) (hps:S.sts.length = p.sts.length)
include hS hpi hps
theorem Sim.good.nets (h:Hk V2):S.nets vAlg h (p.ins.map a0i) (p.sts.map a0i) = S.nets vAlg0 h (p.ins.map a0i) (p.sts.map a0i):=
 d6f (A:=vAlg) (B:=vAlg0) rfl hS.perm hS.topo hS.comb hS.inn (fun n hn hk=>(hS.ins n).2 ⟨hn,hk⟩) (fun n hn hk=>(hS.sts n).2 ⟨hn,hk⟩) (fun n hn=>((hS.ins n).1 hn).1) (fun n hn=>((hS.sts n).1 hn).1) (by simpa using hpi) (by simpa using hps)
omit hpi hps in
theorem Sim.good.seen (h:Hk V2) (nets:List V2) (hl:nets.length = S.nodes.length):S.seen vAlg h nets = S.seen vAlg0 h nets:=
 d5q (fun n hn=>by rw [hl];exact hS.outs n hn) (fun n hn=>⟨hS.dff n hn,fun m hm=>by rw [hl];exact hS.inn n ((hS.sts n).1 hn).1 m hm⟩)
theorem Sim.good.det (f:Flt) (hm:f.model = 0 → f.value ≤ 3) (hfn:f.node < S.nodes.length) (hfo:f.other < S.nodes.length) (hiv:∀ v ∈ p.ins,v ≤ 3) (hsv:∀ v ∈ p.sts,v ≤ 3) :
 S.det f p = (b1u (S.outs.map fun n=>(S.nets nAlg f6x p.ins p.sts).getD n 0) (S.outs.map fun n=>(S.nets nAlg (hkF f (a15 nAlg (S.nets nAlg f6x p.ins p.sts) f)) p.ins p.sts).getD n 0) ||
  b1u (S.sts.map fun n=>a4x ((S.nets nAlg f6x p.ins p.sts).getD ((a21 S.nodes n).getD 0 0) 0)) (a7l S.nodes (hkF f (a15 nAlg (S.nets nAlg f6x p.ins p.sts) f)) (S.nets nAlg (hkF f (a15 nAlg (S.nets nAlg f6x p.ins p.sts) f)) p.ins p.sts) S.sts)):=by
 have hG:S.nets vAlg f6x (p.ins.map a0i) (p.sts.map a0i) = (S.nets nAlg f6x p.ins p.sts).map a0i:=by
  rw [hS.nets hpi hps]
  exact (b00 e0z b7j _ _ _ _ _).symm
 have hGl:(S.nets nAlg f6x p.ins p.sts).length = S.nodes.length:=a9z _ _ _ _ _
 have hGv:∀ v ∈ S.nets nAlg f6x p.ins p.sts,v ≤ 3:=b7c c83 _ _ _ _ _ hiv hsv
 generalize hgd:S.nets nAlg f6x p.ins p.sts = G at hG hGl hGv
 have hF:a15 vAlg (G.map a0i) f = a0i (a15 nAlg G f):=by
  have h1:=b68 e0z G f
  rw [h1]
  unfold a15
  have hz:∀ n,n < S.nodes.length → (G.map a0i).getD n vAlg.z = (G.map a0i).getD n vAlg0.z:=fun n hn=>by
   rw [List.getD,List.getD,List.getElem?_eq_getElem (by rw [List.length_map,hGl];exact hn)];rfl
  rw [hz _ hfn,hz _ hfo]
  rfl
 have hFv:a15 nAlg G f ≤ 3:=by
  unfold a15
  split
  ·rename_i h;exact hm h
  split
  ·exact a6j hGv _
  split<;>exact c70 _ _
 have hh:=d4l (f:=f) hFv
 have hB:S.nets vAlg (hkF f (a0i (a15 nAlg G f))) (p.ins.map a0i) (p.sts.map a0i) = (S.nets nAlg (hkF f (a15 nAlg G f)) p.ins p.sts).map a0i:=by
  rw [hS.nets hpi hps]
  exact (b00 e0z (c82 f _) _ _ _ _ _).symm
 have hBl:(S.nets nAlg (hkF f (a15 nAlg G f)) p.ins p.sts).length = S.nodes.length:=a9z _ _ _ _ _
 have hBv:∀ v ∈ S.nets nAlg (hkF f (a15 nAlg G f)) p.ins p.sts,v ≤ 3:=b7c hh _ _ _ _ _ hiv hsv
 unfold Sim.det
 dsimp only
 rw [hG,hF,hB]
 generalize a15 nAlg G f = q at hh hB hBl hBv ⊢
 generalize S.nets nAlg (hkF f q) p.ins p.sts = B at hB hBl hBv ⊢
 rw [hS.seen f6x _ (by rw [List.length_map];exact hGl),hS.seen (hkF f (a0i q)) _ (by rw [List.length_map];exact hBl)]
 have e1:S.seen vAlg0 f6x (G.map a0i) = (S.seen nAlg f6x G).map a0i:=(a9t e0z b7j _ _ _).symm
 have e2:S.seen vAlg0 (hkF f (a0i q)) (B.map a0i) = (S.seen nAlg (hkF f q) B).map a0i:=(a9t e0z (c82 f _) _ _ _).symm
 rw [e1,e2]
 have key:∀ (h:Hk Nat) (N:List Nat),d3v h → (∀ v ∈ N,v ≤ 3) → ∀ v ∈ S.seen nAlg h N,v ≤ 3:=by
  intro h N hh hN v hv
  unfold Sim.seen b2s at hv
  rcases List.mem_append.1 hv with hv|hv
  ·obtain ⟨n,_,rfl⟩:=List.mem_map.1 hv;exact a6j hN n
  ·obtain ⟨n,_,rfl⟩:=List.mem_map.1 hv;exact a6j (fun v hv=>c23 hh hN n _ _ v hv) 0
 rw [b5a _ _ _ (key _ _ c83 hGv) (key _ _ hh hBv),Bool.false_or]
 unfold Sim.seen b2s
 rw [b4b _ _ _ _ (by simp)]
 congr 1
 unfold a7l
 refine c34 _ _ _ _ _ (fun n hn=>?_)
 have hr:(a0n nAlg S.nodes f6x G n).getD 0 0 = G.getD ((a21 S.nodes n).getD 0 0) 0:=by
  have hd:=hS.dff n hn
  unfold a0n
  cases hi:a21 S.nodes n with
  | nil=>exact absurd hi hd
  | cons m l=>rfl
 have hx:G.getD ((a21 S.nodes n).getD 0 0) 0 ≤ 3:=a6j hGv _
 have hy:(a0n nAlg S.nodes (hkF f q) B n).getD 0 0 ≤ 3:=a6j (fun v hv=>c23 hh hBv n _ _ v hv) 0
 show f6t ((a0n nAlg S.nodes f6x G n).getD 0 0) _ = _
 rw [hr,d34 hx hy]
 rfl
end
end Go.Pc
