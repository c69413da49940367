/- PcPack: words that are put together a2j by a2j. Plain. -/
import Derived.Test.YtllalbnibhofiaaGreatDoorPcB
set_option linter.unusedSimpArgs false
set_option linter.unusedVariables false
namespace Go.Pc
open Go.Ax
theorem b9h:∀ (a b:List W) (s:BitVec 64) (x y:W),a.length = b.length → b86 (a ++ [x]) (b ++ [y]) s = b86 a b s ||| f6u x y
 | [],[],s,x,y,_=>rfl
 | [],_ :: _,_,_,_,h=>by simp at h
 | _ :: _,[],_,_,_,h=>by simp at h
 | a :: as,b :: bs,s,x,y,h=>by simp only [List.cons_append,b86];exact b9h as bs _ x y (by simpa using h)
theorem c8y {a b:List W} {i:Nat} {x y:W} (hx:a[i]? = some x) (hy:b[i]? = some y):b86 (a.take (i + 1)) (b.take (i + 1)) 0 = b86 (a.take i) (b.take i) 0 ||| f6u x y:=by
 have l1:=(List.getElem?_eq_some_iff.1 hx).1
 have l2:=(List.getElem?_eq_some_iff.1 hy).1
 rw [a0u hx,a0u hy,b9h]
 rw [List.length_take,List.length_take];omega
theorem c8z:∀ (a b:List W) (s:BitVec 64),a.length ≤ b.length → b86 a (b.take a.length) s = b86 a b s
 | [],b,s,_=>by cases b<;>rfl
 | a :: as,[],s,h=>by simp at h
 | a :: as,b :: bs,s,h=>by simp only [List.length_cons,List.take_succ_cons,b86];exact c8z as bs _ (by simpa using h)
theorem b9a {j n:Nat} (hj:j < 64) (hn:n < 64):(d7y n).getLsbD j = decide (j = n):=by
 have e:BitVec.ofInt 64 1 = 1#64:=by decide
 unfold d7y
 rw [e,BitVec.getLsbD_shiftLeft,BitVec.getLsbD_one]
 simp only [hj,decide_true,Bool.true_and]
 by_cases h:j = n
 ·subst h;simp
 ·by_cases h2:j < n
  ·simp [h2,h]
  ·have:¬ (j - n = 0):=by omega
   simp [h2,h,this]
theorem c4b {j n:Nat} (hj:j < 64) (hn:n < 64) (w:W) (v:Nat):a2j j (a6t w n v) = if j = n then a0i v else a2j j w:=by
 have hf:=a79 hj v
 have f1:(a1a v).one.getLsbD j = (a0i v).1:=congrArg Prod.fst hf
 have f2:(a1a v).zero.getLsbD j = (a0i v).2:=congrArg Prod.snd hf
 unfold a2j a6t
 simp only [BitVec.getLsbD_or,BitVec.getLsbD_and,BitVec.getLsbD_not,b9a hj hn,hj,decide_true,Bool.true_and,f1,f2]
 by_cases h:j = n
 ·simp [h]
 ·simp [h]
end Go.Pc
/- PcEach: many faults, one a2j each. Plain. -/
namespace Go.Pc
open Go.Ax
variable {j:Nat}
def wAt (w:W) (j:Nat):Nat:=match w.one.getLsbD j,w.zero.getLsbD j with
 | false,true=>0
 | true,false=>1
 | false,false=>2
 | true,true=>3
theorem d0d (w:W) (j:Nat):a0i (wAt w j) = a2j j w:=by
 unfold wAt a2j
 cases w.one.getLsbD j<;>cases w.zero.getLsbD j<;>rfl
def e4g (good:List W) (f:Flt) (j:Nat):Nat:=if f.model = 0 then f.value else wAt (a15 a2m good f) j
theorem c5t (hj:j < 64) (good:List W) (f:Flt):a0i (e4g good f j) = a2j j (a15 a2m good f):=by
 unfold e4g
 by_cases h:f.model = 0
 ·rw [if_pos h]
  unfold a15
  rw [if_pos h]
  exact (a79 hj f.value).symm
 ·rw [if_neg h,d0d]
def e50 (v:Nat → Nat) (l:List Nat) (w:W):W:=l.foldl (fun w k=>a6t w k (v k)) w
theorem b8z (hj:j < 64) (v:Nat → Nat):∀ (l:List Nat) (w:W),(∀ k ∈ l,k < 64) → a2j j (e50 v l w) = if j ∈ l then a0i (v j) else a2j j w
 | [],w,_=>by simp [e50]
 | k :: l,w,h=>by
  have ih:=b8z hj v l (a6t w k (v k)) (fun k hk=>h k (by simp [hk]))
  show a2j j (e50 v l (a6t w k (v k))) = _
  rw [ih,c4b hj (h k (by simp))]
  by_cases h1:j ∈ l
  ·rw [if_pos h1,if_pos (by simp [h1])]
  ·rw [if_neg h1]
   by_cases h2:j = k
   ·rw [if_pos h2,if_pos (by simp [h2]),h2]
   ·rw [if_neg h2,if_neg (by simp [h1,h2])]
theorem d2v (S:Sim) {j:Nat} (hj:j < 64) (f:Flt) (p:Pat) (vi vs:List W) (hi:vi.map (a2j j) = p.ins.map a0i) (hs:vs.map (a2j j) = p.sts.map a0i) (h':Hk W) (hh:HkHom (a2j j) h' (hkF f (a2j j (a15 a2m (S.nets a2m f6x vi vs) f)))) :
 (b86 (S.seen a2m f6x (S.nets a2m f6x vi vs)) (S.seen a2m h' (S.nets a2m h' vi vs)) 0).getLsbD j = S.det f p:=by
 have hφ:=d6s hj
 have hn0:(S.nets a2m f6x vi vs).map (a2j j) = S.nets vAlg f6x (p.ins.map a0i) (p.sts.map a0i):=by
  rw [← hi,← hs];exact b00 hφ b7j S.ord S.ins S.sts vi vs
 have hf:a2j j (a15 a2m (S.nets a2m f6x vi vs) f) = a15 vAlg (S.nets vAlg f6x (p.ins.map a0i) (p.sts.map a0i)) f:=by
  rw [← hn0];exact b68 hφ _ f
 rw [hf] at hh
 have hn1:(S.nets a2m h' vi vs).map (a2j j) = S.nets vAlg (hkF f (a15 vAlg (S.nets vAlg f6x (p.ins.map a0i) (p.sts.map a0i)) f)) (p.ins.map a0i) (p.sts.map a0i):=by
  rw [← hi,← hs] at hh ⊢;exact b00 hφ hh S.ord S.ins S.sts vi vs
 rw [b90 hj]
 have s0:(S.seen a2m f6x (S.nets a2m f6x vi vs)).map (a2j j) = S.seen vAlg f6x (S.nets vAlg f6x (p.ins.map a0i) (p.sts.map a0i)):=by
  rw [← hn0];exact a9t hφ b7j S.outs S.sts _
 have s1:(S.seen a2m h' (S.nets a2m h' vi vs)).map (a2j j) = S.seen vAlg (hkF f (a15 vAlg (S.nets vAlg f6x (p.ins.map a0i) (p.sts.map a0i)) f)) (S.nets vAlg (hkF f (a15 vAlg (S.nets vAlg f6x (p.ins.map a0i) (p.sts.map a0i)) f)) (p.ins.map a0i) (p.sts.map a0i)):=by
  rw [← hn1];exact a9t hφ hh S.outs S.sts _
 rw [s0,s1]
 unfold Sim.det
 simp
end Go.Pc
