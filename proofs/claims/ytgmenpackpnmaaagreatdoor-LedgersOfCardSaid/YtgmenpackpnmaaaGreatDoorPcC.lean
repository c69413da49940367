/- PcPack: words that are put together a38 by a38. Plain. -/
import Derived.Test.YtgmenpackpnmaaaGreatDoorPcB
set_option linter.unusedSimpArgs false
set_option linter.unusedVariables false
namespace Go.Pc
open Go.Ax
theorem b9j:∀ (a b:List W) (s:BitVec 64) (x y:W),a.length = b.length → b84 (a ++ [x]) (b ++ [y]) s = b84 a b s ||| ctr x y
 | [],[],s,x,y,_=>rfl
 | [],_ :: _,_,_,_,h=>by simp at h
 | _ :: _,[],_,_,_,h=>by simp at h
 | a :: as,b :: bs,s,x,y,h=>by simp only [List.cons_append,b84];exact b9j as bs _ x y (by simpa using h)
theorem c9s {a b:List W} {i:Nat} {x y:W} (hx:a[i]? = some x) (hy:b[i]? = some y):b84 (a.take (i + 1)) (b.take (i + 1)) 0 = b84 (a.take i) (b.take i) 0 ||| ctr x y:=by
 have l1:=(List.getElem?_eq_some_iff.1 hx).1
 have l2:=(List.getElem?_eq_some_iff.1 hy).1
 rw [a0z hx,a0z hy,b9j]
 rw [List.length_take,List.length_take];omega
theorem c9t:∀ (a b:List W) (s:BitVec 64),a.length ≤ b.length → b84 a (b.take a.length) s = b84 a b s
 | [],b,s,_=>by cases b<;>rfl
 | a :: as,[],s,h=>by simp at h
 | a :: as,b :: bs,s,h=>by simp only [List.length_cons,List.take_succ_cons,b84];exact c9t as bs _ (by simpa using h)
def a36:List Nat → Nat → W → W
 | [],_,w=>w
 | v :: r,k,w=>a36 r (k + 1) (b1j w k v)
theorem a9y:∀ (vs:List Nat) (k:Nat) (w:W) (v:Nat),a36 (vs ++ [v]) k w = b1j (a36 vs k w) (k + vs.length) v
 | [],k,w,v=>rfl
 | a :: r,k,w,v=>by simp only [List.cons_append,a36,a9y r,List.length_cons];congr 1;omega
theorem b6r {vs:List Nat} {i v:Nat} {w:W} (h:vs[i]? = some v):a36 (vs.take (i + 1)) 0 w = b1j (a36 (vs.take i) 0 w) i v:=by
 have l:=(List.getElem?_eq_some_iff.1 h).1
 rw [a0z h,a9y,List.length_take,Nat.zero_add,Nat.min_eq_left (by omega)]
theorem b99 {j n:Nat} (hj:j < 64) (hn:n < 64):(d9t n).getLsbD j = decide (j = n):=by
 have e:BitVec.ofInt 64 1 = 1#64:=by decide
 unfold d9t
 rw [e,BitVec.getLsbD_shiftLeft,BitVec.getLsbD_one]
 simp only [hj,decide_true,Bool.true_and]
 by_cases h:j = n
 ·subst h;simp
 ·by_cases h2:j < n
  ·simp [h2,h]
  ·have:¬ (j - n = 0):=by omega
   simp [h2,h,this]
theorem c4s {j n:Nat} (hj:j < 64) (hn:n < 64) (w:W) (v:Nat):a38 j (b1j w n v) = if j = n then a0l v else a38 j w:=by
 have hf:=b06 hj v
 have f1:(a2r v).one.getLsbD j = (a0l v).1:=congrArg Prod.fst hf
 have f2:(a2r v).zero.getLsbD j = (a0l v).2:=congrArg Prod.snd hf
 unfold a38 b1j
 simp only [BitVec.getLsbD_or,BitVec.getLsbD_and,BitVec.getLsbD_not,b99 hj hn,hj,decide_true,Bool.true_and,f1,f2]
 by_cases h:j = n
 ·simp [h]
 ·simp [h]
theorem b04 {j:Nat} (hj:j < 64):∀ (vs:List Nat) (k:Nat) (w:W),k + vs.length ≤ 64 → a38 j (a36 vs k w) = if k ≤ j ∧ j < k + vs.length then a0l (vs.getD (j - k) 0) else a38 j w
 | [],k,w,_=>by
  have:¬ (k ≤ j ∧ j < k + 0):=by omega
  simp only [List.length_nil,if_neg this];rfl
 | v :: r,k,w,h=>by
  simp only [List.length_cons] at h ⊢
  simp only [a36]
  rw [b04 hj r (k + 1) _ (by omega),c4s hj (by omega)]
  by_cases h1:j = k
  ·subst h1
   have e1:¬ (j + 1 ≤ j ∧ j < j + 1 + r.length):=by omega
   have e2:j ≤ j ∧ j < j + (r.length + 1):=by omega
   rw [if_neg e1,if_pos rfl,if_pos e2,Nat.sub_self];rfl
  ·by_cases h2:k + 1 ≤ j ∧ j < k + 1 + r.length
   ·have e2:k ≤ j ∧ j < k + (r.length + 1):=by omega
    rw [if_pos h2,if_pos e2,show j - k = (j - (k + 1)) + 1 by omega];rfl
   ·have e2:¬ (k ≤ j ∧ j < k + (r.length + 1)):=by omega
    rw [if_neg h2,if_neg e2,if_neg h1]
end Go.Pc
/- PcEach: many faults, one a38 each. Plain. -/
namespace Go.Pc
open Go.Ax
variable {j:Nat}
theorem d40 (S:Sim) {j:Nat} (hj:j < 64) (f:Flt) (p:Pat) (vi vs:List W) (hi:vi.map (a38 j) = p.ins.map a0l) (hs:vs.map (a38 j) = p.sts.map a0l) (h':Hk W) (hh:HkHom (a38 j) h' (hkF f (a38 j (a16 a20 (S.nets a20 hk0 vi vs) f)))) :
 (b84 (S.seen a20 hk0 (S.nets a20 hk0 vi vs)) (S.seen a20 h' (S.nets a20 h' vi vs)) 0).getLsbD j = S.det f p:=by
 have hφ:=d8o hj
 have hn0:(S.nets a20 hk0 vi vs).map (a38 j) = S.nets vAlg hk0 (p.ins.map a0l) (p.sts.map a0l):=by
  rw [← hi,← hs];exact b02 hφ b77 S.ord S.ins S.sts vi vs
 have hf:a38 j (a16 a20 (S.nets a20 hk0 vi vs) f) = a16 vAlg (S.nets vAlg hk0 (p.ins.map a0l) (p.sts.map a0l)) f:=by
  rw [← hn0];exact b5s hφ _ f
 rw [hf] at hh
 have hn1:(S.nets a20 h' vi vs).map (a38 j) = S.nets vAlg (hkF f (a16 vAlg (S.nets vAlg hk0 (p.ins.map a0l) (p.sts.map a0l)) f)) (p.ins.map a0l) (p.sts.map a0l):=by
  rw [← hi,← hs] at hh ⊢;exact b02 hφ hh S.ord S.ins S.sts vi vs
 rw [b90 hj]
 have s0:(S.seen a20 hk0 (S.nets a20 hk0 vi vs)).map (a38 j) = S.seen vAlg hk0 (S.nets vAlg hk0 (p.ins.map a0l) (p.sts.map a0l)):=by
  rw [← hn0];exact a9s hφ b77 S.outs S.sts _
 have s1:(S.seen a20 h' (S.nets a20 h' vi vs)).map (a38 j) = S.seen vAlg (hkF f (a16 vAlg (S.nets vAlg hk0 (p.ins.map a0l) (p.sts.map a0l)) f)) (S.nets vAlg (hkF f (a16 vAlg (S.nets vAlg hk0 (p.ins.map a0l) (p.sts.map a0l)) f)) (p.ins.map a0l) (p.sts.map a0l)):=by
  rw [← hn1];exact a9s hφ hh S.outs S.sts _
 rw [s0,s1]
 unfold Sim.det
 simp
end Go.Pc
