/- PcPack: words that are put together a2l by a2l. Plain. -/
import Derived.Test.YtgmenpackpnmaaaGreatDoorPcB
set_option linter.unusedSimpArgs false
set_option linter.unusedVariables false
namespace Go.Pc
open Go.Ax
theorem b74:∀ (a b:List W) (s:BitVec 64) (x y:W),a.length = b.length → b5y (a ++ [x]) (b ++ [y]) s = b5y a b s ||| ctr x y
 | [],[],s,x,y,_=>rfl
 | [],_ :: _,_,_,_,h=>by simp at h
 | _ :: _,[],_,_,_,h=>by simp at h
 | a :: as,b :: bs,s,x,y,h=>by simp only [List.cons_append,b5y];exact b74 as bs _ x y (by simpa using h)
theorem c64 {a b:List W} {i:Nat} {x y:W} (hx:a[i]? = some x) (hy:b[i]? = some y):b5y (a.take (i + 1)) (b.take (i + 1)) 0 = b5y (a.take i) (b.take i) 0 ||| ctr x y:=by
 have l1:=(List.getElem?_eq_some_iff.1 hx).1
 have l2:=(List.getElem?_eq_some_iff.1 hy).1
 rw [a0z hx,a0z hy,b74]
 rw [List.length_take,List.length_take];omega
theorem c65:∀ (a b:List W) (s:BitVec 64),a.length ≤ b.length → b5y a (b.take a.length) s = b5y a b s
 | [],b,s,_=>by cases b<;>rfl
 | a :: as,[],s,h=>by simp at h
 | a :: as,b :: bs,s,h=>by simp only [List.length_cons,List.take_succ_cons,b5y];exact c65 as bs _ (by simpa using h)
def a2j:List Nat → Nat → W → W
 | [],_,w=>w
 | v :: r,k,w=>a2j r (k + 1) (b06 w k v)
theorem a8s:∀ (vs:List Nat) (k:Nat) (w:W) (v:Nat),a2j (vs ++ [v]) k w = b06 (a2j vs k w) (k + vs.length) v
 | [],k,w,v=>rfl
 | a :: r,k,w,v=>by simp only [List.cons_append,a2j,a8s r,List.length_cons];congr 1;omega
theorem b4q {vs:List Nat} {i v:Nat} {w:W} (h:vs[i]? = some v):a2j (vs.take (i + 1)) 0 w = b06 (a2j (vs.take i) 0 w) i v:=by
 have l:=(List.getElem?_eq_some_iff.1 h).1
 rw [a0z h,a8s,List.length_take,Nat.zero_add,Nat.min_eq_left (by omega)]
theorem b6w {j n:Nat} (hj:j < 64) (hn:n < 64):(d53 n).getLsbD j = decide (j = n):=by
 have e:BitVec.ofInt 64 1 = 1#64:=by decide
 unfold d53
 rw [e,BitVec.getLsbD_shiftLeft,BitVec.getLsbD_one]
 simp only [hj,decide_true,Bool.true_and]
 by_cases h:j = n
 ·subst h;simp
 ·by_cases h2:j < n
  ·simp [h2,h]
  ·have:¬ (j - n = 0):=by omega
   simp [h2,h,this]
theorem c1o {j n:Nat} (hj:j < 64) (hn:n < 64) (w:W) (v:Nat):a2l j (b06 w n v) = if j = n then a2c v else a2l j w:=by
 have hf:=a8y hj v
 have f1:(a29 v).one.getLsbD j = (a2c v).1:=congrArg Prod.fst hf
 have f2:(a29 v).zero.getLsbD j = (a2c v).2:=congrArg Prod.snd hf
 unfold a2l b06
 simp only [BitVec.getLsbD_or,BitVec.getLsbD_and,BitVec.getLsbD_not,b6w hj hn,hj,decide_true,Bool.true_and,f1,f2]
 by_cases h:j = n
 ·simp [h]
 ·simp [h]
theorem a8w {j:Nat} (hj:j < 64):∀ (vs:List Nat) (k:Nat) (w:W),k + vs.length ≤ 64 → a2l j (a2j vs k w) = if k ≤ j ∧ j < k + vs.length then a2c (vs.getD (j - k) 0) else a2l j w
 | [],k,w,_=>by
  have:¬ (k ≤ j ∧ j < k + 0):=by omega
  simp only [List.length_nil,if_neg this];rfl
 | v :: r,k,w,h=>by
  simp only [List.length_cons] at h ⊢
  simp only [a2j]
  rw [a8w hj r (k + 1) _ (by omega),c1o hj (by omega)]
  by_cases h1:j = k
  ·subst h1
   have e1:¬ (j + 1 ≤ j ∧ j < j + 1 + r.length):=by omega
   have e2:j ≤ j ∧ j < j + (r.length + 1):=by omega
   rw [if_neg e1,if_pos rfl,if_pos e2,Nat.sub_self];rfl
  ·by_cases h2:k + 1 ≤ j ∧ j < k + 1 + r.length
   ·have e2:k ≤ j ∧ j < k + (r.length + 1):=by omega
    rw [if_pos h2,if_pos e2,show j - k = (j - (k + 1)) + 1 by omega];rfl
   ·have e2:¬ (k ≤ j ∧ j < k + (r.length + 1)):=by omega
    rw [if_neg h2,if_neg e2,if_neg h1]
end Go.Pc
/- PcEach: many faults, one a2l each. Plain. -/
namespace Go.Pc
open Go.Ax
variable {j:Nat}
theorem c9w (S:Sim) {j:Nat} (hj:j < 64) (f:Flt) (p:Pat) (vi vs:List W) (hi:vi.map (a2l j) = p.ins.map a2c) (hs:vs.map (a2l j) = p.sts.map a2c) (h':Hk W) (hh:HkHom (a2l j) h' (hkF f (a2l j (a1s a1l (S.nets a1l hk0 vi vs) f)))) :
 (b5y (S.seen a1l hk0 (S.nets a1l hk0 vi vs)) (S.seen a1l h' (S.nets a1l h' vi vs)) 0).getLsbD j = S.det f p:=by
 have hφ:=d40 hj
 have hn0:(S.nets a1l hk0 vi vs).map (a2l j) = S.nets b2r hk0 (p.ins.map a2c) (p.sts.map a2c):=by
  rw [← hi,← hs];exact b6i hφ c5f S.ord S.ins S.sts vi vs
 have hf:a2l j (a1s a1l (S.nets a1l hk0 vi vs) f) = a1s b2r (S.nets b2r hk0 (p.ins.map a2c) (p.sts.map a2c)) f:=by
  rw [← hn0];exact c21 hφ _ f
 rw [hf] at hh
 have hn1:(S.nets a1l h' vi vs).map (a2l j) = S.nets b2r (hkF f (a1s b2r (S.nets b2r hk0 (p.ins.map a2c) (p.sts.map a2c)) f)) (p.ins.map a2c) (p.sts.map a2c):=by
  rw [← hi,← hs] at hh ⊢;exact b6i hφ hh S.ord S.ins S.sts vi vs
 rw [b6p hj]
 have s0:(S.seen a1l hk0 (S.nets a1l hk0 vi vs)).map (a2l j) = S.seen b2r hk0 (S.nets b2r hk0 (p.ins.map a2c) (p.sts.map a2c)):=by
  rw [← hn0];exact b64 hφ c5f S.outs S.sts _
 have s1:(S.seen a1l h' (S.nets a1l h' vi vs)).map (a2l j) = S.seen b2r (hkF f (a1s b2r (S.nets b2r hk0 (p.ins.map a2c) (p.sts.map a2c)) f)) (S.nets b2r (hkF f (a1s b2r (S.nets b2r hk0 (p.ins.map a2c) (p.sts.map a2c)) f)) (p.ins.map a2c) (p.sts.map a2c)):=by
  rw [← hn1];exact b64 hφ hh S.outs S.sts _
 rw [s0,s1]
 unfold Sim.det
 simp
end Go.Pc
