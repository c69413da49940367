/- PcPack: words that are put together adb by adb. Plain. -/
import Derived.Test.YtllalbnibhofiaaGreatDoorPcB
set_option linter.unusedSimpArgs false
set_option linter.unusedVariables false
namespace Go.Pc
open Go.Ax
theorem atw:∀ (a b:List W) (s:BitVec 64) (x y:W),a.length = b.length → asb (a ++ [x]) (b ++ [y]) s = asb a b s ||| ctr x y
 | [],[],s,x,y,_=>rfl
 | [],_ :: _,_,_,_,h=>by simp at h
 | _ :: _,[],_,_,_,h=>by simp at h
 | a :: as,b :: bs,s,x,y,h=>by simp only [List.cons_append,asb];exact atw as bs _ x y (by simpa using h)
theorem bdf {a b:List W} {i:Nat} {x y:W} (hx:a[i]? = some x) (hy:b[i]? = some y):asb (a.take (i + 1)) (b.take (i + 1)) 0 = asb (a.take i) (b.take i) 0 ||| ctr x y:=by
 have l1:=(List.getElem?_eq_some_iff.1 hx).1
 have l2:=(List.getElem?_eq_some_iff.1 hy).1
 rw [aay hx,aay hy,atw]
 rw [List.length_take,List.length_take];omega
theorem bdg:∀ (a b:List W) (s:BitVec 64),a.length ≤ b.length → asb a (b.take a.length) s = asb a b s
 | [],b,s,_=>by cases b<;>rfl
 | a :: as,[],s,h=>by simp at h
 | a :: as,b :: bs,s,h=>by simp only [List.length_cons,List.take_succ_cons,asb];exact bdg as bs _ (by simpa using h)
def ad9:List Nat → Nat → W → W
 | [],_,w=>w
 | v :: r,k,w=>ad9 r (k + 1) (alx w k v)
theorem aka:∀ (vs:List Nat) (k:Nat) (w:W) (v:Nat),ad9 (vs ++ [v]) k w = alx (ad9 vs k w) (k + vs.length) v
 | [],k,w,v=>rfl
 | a :: r,k,w,v=>by simp only [List.cons_append,ad9,aka r,List.length_cons];congr 1;omega
theorem arm {vs:List Nat} {i v:Nat} {w:W} (h:vs[i]? = some v):ad9 (vs.take (i + 1)) 0 w = alx (ad9 (vs.take i) 0 w) i v:=by
 have l:=(List.getElem?_eq_some_iff.1 h).1
 rw [aay h,aka,List.length_take,Nat.zero_add,Nat.min_eq_left (by omega)]
theorem atn {j n:Nat} (hj:j < 64) (hn:n < 64):(bms n).getLsbD j = decide (j = n):=by
 have e:BitVec.ofInt 64 1 = 1#64:=by decide
 unfold bms
 rw [e,BitVec.getLsbD_shiftLeft,BitVec.getLsbD_one]
 simp only [hj,decide_true,Bool.true_and]
 by_cases h:j = n
 ·subst h;simp
 ·by_cases h2:j < n
  ·simp [h2,h]
  ·have:¬ (j - n = 0):=by omega
   simp [h2,h,this]
theorem az0 {j n:Nat} (hj:j < 64) (hn:n < 64) (w:W) (v:Nat):adb j (alx w n v) = if j = n then aal v else adb j w:=by
 have hf:=akj hj v
 have f1:(acu v).one.getLsbD j = (aal v).1:=congrArg Prod.fst hf
 have f2:(acu v).zero.getLsbD j = (aal v).2:=congrArg Prod.snd hf
 unfold adb alx
 simp only [BitVec.getLsbD_or,BitVec.getLsbD_and,BitVec.getLsbD_not,atn hj hn,hj,decide_true,Bool.true_and,f1,f2]
 by_cases h:j = n
 ·simp [h]
 ·simp [h]
theorem akh {j:Nat} (hj:j < 64):∀ (vs:List Nat) (k:Nat) (w:W),k + vs.length ≤ 64 → adb j (ad9 vs k w) = if k ≤ j ∧ j < k + vs.length then aal (vs.getD (j - k) 0) else adb j w
 | [],k,w,_=>by
  have:¬ (k ≤ j ∧ j < k + 0):=by omega
  simp only [List.length_nil,if_neg this];rfl
 | v :: r,k,w,h=>by
  simp only [List.length_cons] at h ⊢
  simp only [ad9]
  rw [akh hj r (k + 1) _ (by omega),az0 hj (by omega)]
  by_cases h1:j = k
  ·subst h1
   have e1:¬ (j + 1 ≤ j ∧ j < j + 1 + r.length):=by omega
   have e2:j ≤ j ∧ j < j + (r.length + 1):=by omega
   rw [if_neg e1,if_pos rfl,if_pos e2,Nat.sub_self];rfl
  ·by_cases h2:k + 1 ≤ j ∧ j < k + 1 + r.length
   ·have e2:k ≤ j ∧ j < k + (r.length + 1):=by omega
    rw [if_pos h2,if_pos e2,show j - k = (j - (k + 1)) + 1 by omega];rfl
   ·have e2:¬ (k ≤ j ∧ j < k + (r.length + 1)):=by omega
    rw [if_neg h2,if_neg e2,if_neg h1]
end Go.Pc
/- PcEach: many faults, one adb each. Plain. -/
namespace Go.Pc
open Go.Ax
variable {j:Nat}
theorem bh8 (S:Sim) {j:Nat} (hj:j < 64) (f:Flt) (p:Pat) (vi vs:List W) (hi:vi.map (adb j) = p.ins.map aal) (hs:vs.map (adb j) = p.sts.map aal) (h':Hk W) (hh:HkHom (adb j) h' (hkF f (adb j (ab0 abq (S.nets abq hk0 vi vs) f)))) :
 (asb (S.seen abq hk0 (S.nets abq hk0 vi vs)) (S.seen abq h' (S.nets abq h' vi vs)) 0).getLsbD j = S.det f p:=by
 have hφ:=bln hj
 have hn0:(S.nets abq hk0 vi vs).map (adb j) = S.nets vAlg hk0 (p.ins.map aal) (p.sts.map aal):=by
  rw [← hi,← hs];exact ake hφ arz S.ord S.ins S.sts vi vs
 have hf:adb j (ab0 abq (S.nets abq hk0 vi vs) f) = ab0 vAlg (S.nets vAlg hk0 (p.ins.map aal) (p.sts.map aal)) f:=by
  rw [← hn0];exact aqm hφ _ f
 rw [hf] at hh
 have hn1:(S.nets abq h' vi vs).map (adb j) = S.nets vAlg (hkF f (ab0 vAlg (S.nets vAlg hk0 (p.ins.map aal) (p.sts.map aal)) f)) (p.ins.map aal) (p.sts.map aal):=by
  rw [← hi,← hs] at hh ⊢;exact ake hφ hh S.ord S.ins S.sts vi vs
 rw [atf hj]
 have s0:(S.seen abq hk0 (S.nets abq hk0 vi vs)).map (adb j) = S.seen vAlg hk0 (S.nets vAlg hk0 (p.ins.map aal) (p.sts.map aal)):=by
  rw [← hn0];exact ak6 hφ arz S.outs S.sts _
 have s1:(S.seen abq h' (S.nets abq h' vi vs)).map (adb j) = S.seen vAlg (hkF f (ab0 vAlg (S.nets vAlg hk0 (p.ins.map aal) (p.sts.map aal)) f)) (S.nets vAlg (hkF f (ab0 vAlg (S.nets vAlg hk0 (p.ins.map aal) (p.sts.map aal)) f)) (p.ins.map aal) (p.sts.map aal)):=by
  rw [← hn1];exact ak6 hφ hh S.outs S.sts _
 rw [s0,s1]
 unfold Sim.det
 simp
end Go.Pc
