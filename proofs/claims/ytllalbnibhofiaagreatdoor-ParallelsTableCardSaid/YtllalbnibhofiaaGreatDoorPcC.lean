/- PcPack: words that are put together lane by lane. Plain. -/
import Derived.Test.YtllalbnibhofiaaGreatDoorPcB
set_option linter.unusedSimpArgs false
set_option linter.unusedVariables false
namespace Go.Pc
open Go.Ax
theorem ctrs_snoc:∀ (a b:List W) (s:BitVec 64) (x y:W),a.length = b.length → ctrs (a ++ [x]) (b ++ [y]) s = ctrs a b s ||| ctr x y
 | [],[],s,x,y,_=>rfl
 | [],_ :: _,_,_,_,h=>by simp at h
 | _ :: _,[],_,_,_,h=>by simp at h
 | a :: as,b :: bs,s,x,y,h=>by simp only [List.cons_append,ctrs];exact ctrs_snoc as bs _ x y (by simpa using h)
theorem ctrs_take {a b:List W} {i:Nat} {x y:W} (hx:a[i]? = some x) (hy:b[i]? = some y):ctrs (a.take (i + 1)) (b.take (i + 1)) 0 = ctrs (a.take i) (b.take i) 0 ||| ctr x y:=by
 have l1:=(List.getElem?_eq_some_iff.1 hx).1
 have l2:=(List.getElem?_eq_some_iff.1 hy).1
 rw [take_snoc hx,take_snoc hy,ctrs_snoc]
 rw [List.length_take,List.length_take];omega
theorem ctrs_le:∀ (a b:List W) (s:BitVec 64),a.length ≤ b.length → ctrs a (b.take a.length) s = ctrs a b s
 | [],b,s,_=>by cases b<;>rfl
 | a :: as,[],s,h=>by simp at h
 | a :: as,b :: bs,s,h=>by simp only [List.length_cons,List.take_succ_cons,ctrs];exact ctrs_le as bs _ (by simpa using h)
def placeAll:List Nat → Nat → W → W
 | [],_,w=>w
 | v :: r,k,w=>placeAll r (k + 1) (wPlace w k v)
theorem placeAll_snoc:∀ (vs:List Nat) (k:Nat) (w:W) (v:Nat),placeAll (vs ++ [v]) k w = wPlace (placeAll vs k w) (k + vs.length) v
 | [],k,w,v=>rfl
 | a :: r,k,w,v=>by simp only [List.cons_append,placeAll,placeAll_snoc r,List.length_cons];congr 1;omega
theorem placeAll_take {vs:List Nat} {i v:Nat} {w:W} (h:vs[i]? = some v):placeAll (vs.take (i + 1)) 0 w = wPlace (placeAll (vs.take i) 0 w) i v:=by
 have l:=(List.getElem?_eq_some_iff.1 h).1
 rw [take_snoc h,placeAll_snoc,List.length_take,Nat.zero_add,Nat.min_eq_left (by omega)]
theorem getLsbD_bitW {j n:Nat} (hj:j < 64) (hn:n < 64):(bitW n).getLsbD j = decide (j = n):=by
 have e:BitVec.ofInt 64 1 = 1#64:=by decide
 unfold bitW
 rw [e,BitVec.getLsbD_shiftLeft,BitVec.getLsbD_one]
 simp only [hj,decide_true,Bool.true_and]
 by_cases h:j = n
 ·subst h;simp
 ·by_cases h2:j < n
  ·simp [h2,h]
  ·have:¬ (j - n = 0):=by omega
   simp [h2,h,this]
theorem lane_place {j n:Nat} (hj:j < 64) (hn:n < 64) (w:W) (v:Nat):lane j (wPlace w n v) = if j = n then vFill v else lane j w:=by
 have hf:=lane_fill hj v
 have f1:(wFill v).one.getLsbD j = (vFill v).1:=congrArg Prod.fst hf
 have f2:(wFill v).zero.getLsbD j = (vFill v).2:=congrArg Prod.snd hf
 unfold lane wPlace
 simp only [BitVec.getLsbD_or,BitVec.getLsbD_and,BitVec.getLsbD_not,getLsbD_bitW hj hn,hj,decide_true,Bool.true_and,f1,f2]
 by_cases h:j = n
 ·simp [h]
 ·simp [h]
theorem lane_placeAll {j:Nat} (hj:j < 64):∀ (vs:List Nat) (k:Nat) (w:W),k + vs.length ≤ 64 → lane j (placeAll vs k w) = if k ≤ j ∧ j < k + vs.length then vFill (vs.getD (j - k) 0) else lane j w
 | [],k,w,_=>by
  have:¬ (k ≤ j ∧ j < k + 0):=by omega
  simp only [List.length_nil,if_neg this];rfl
 | v :: r,k,w,h=>by
  simp only [List.length_cons] at h ⊢
  simp only [placeAll]
  rw [lane_placeAll hj r (k + 1) _ (by omega),lane_place hj (by omega)]
  by_cases h1:j = k
  ·subst h1
   have e1:¬ (j + 1 ≤ j ∧ j < j + 1 + r.length):=by omega
   have e2:j ≤ j ∧ j < j + (r.length + 1):=by omega
   rw [if_neg e1,if_pos rfl,if_pos e2,Nat.sub_self];rfl
  ·by_cases h2:k + 1 ≤ j ∧ j < k + 1 + r.length
   ·have e2:k ≤ j ∧ j < k + (r.length + 1):=by omega
    rw [if_pos h2,if_pos e2,show j - k = (j - (k + 1)) + 1 by omega];rfl
   ·have e2:¬ (k ≤ j ∧ j < k + (r.length + 1)):=by omega
    rw [if_neg h2,if_neg e2,if_neg h1]
end Go.Pc
/- PcEach: many faults, one lane each. Plain. -/
namespace Go.Pc
open Go.Ax
variable {j:Nat}
def wAt (w:W) (j:Nat):Nat:=match w.one.getLsbD j,w.zero.getLsbD j with
 | false,true=>0
 | true,false=>1
 | false,false=>2
 | true,true=>3
theorem vFill_at (w:W) (j:Nat):vFill (wAt w j) = lane j w:=by
 unfold wAt lane
 cases w.one.getLsbD j<;>cases w.zero.getLsbD j<;>rfl
def valW (good:List W) (f:Flt) (j:Nat):Nat:=if f.model = 0 then f.value else wAt (faultG wAlg good f) j
theorem vFill_val (hj:j < 64) (good:List W) (f:Flt):vFill (valW good f j) = lane j (faultG wAlg good f):=by
 unfold valW
 by_cases h:f.model = 0
 ·rw [if_pos h]
  unfold faultG
  rw [if_pos h]
  exact (lane_fill hj f.value).symm
 ·rw [if_neg h,vFill_at]
def putW (v:Nat → Nat) (l:List Nat) (w:W):W:=l.foldl (fun w k=>wPlace w k (v k)) w
theorem lane_putW (hj:j < 64) (v:Nat → Nat):∀ (l:List Nat) (w:W),(∀ k ∈ l,k < 64) → lane j (putW v l w) = if j ∈ l then vFill (v j) else lane j w
 | [],w,_=>by simp [putW]
 | k :: l,w,h=>by
  have ih:=lane_putW hj v l (wPlace w k (v k)) (fun k hk=>h k (by simp [hk]))
  show lane j (putW v l (wPlace w k (v k))) = _
  rw [ih,lane_place hj (h k (by simp))]
  by_cases h1:j ∈ l
  ·rw [if_pos h1,if_pos (by simp [h1])]
  ·rw [if_neg h1]
   by_cases h2:j = k
   ·rw [if_pos h2,if_pos (by simp [h2]),h2]
   ·rw [if_neg h2,if_neg (by simp [h1,h2])]
theorem det_lane (S:Sim) {j:Nat} (hj:j < 64) (f:Flt) (p:Pat) (vi vs:List W) (hi:vi.map (lane j) = p.ins.map vFill) (hs:vs.map (lane j) = p.sts.map vFill) (h':Hk W) (hh:HkHom (lane j) h' (hkF f (lane j (faultG wAlg (S.nets wAlg hk0 vi vs) f)))) :
 (ctrs (S.seen wAlg hk0 (S.nets wAlg hk0 vi vs)) (S.seen wAlg h' (S.nets wAlg h' vi vs)) 0).getLsbD j = S.det f p:=by
 have hφ:=laneHom hj
 have hn0:(S.nets wAlg hk0 vi vs).map (lane j) = S.nets vAlg hk0 (p.ins.map vFill) (p.sts.map vFill):=by
  rw [← hi,← hs];exact netsG_hom hφ hk0_hom S.ord S.ins S.sts vi vs
 have hf:lane j (faultG wAlg (S.nets wAlg hk0 vi vs) f) = faultG vAlg (S.nets vAlg hk0 (p.ins.map vFill) (p.sts.map vFill)) f:=by
  rw [← hn0];exact faultG_hom hφ _ f
 rw [hf] at hh
 have hn1:(S.nets wAlg h' vi vs).map (lane j) = S.nets vAlg (hkF f (faultG vAlg (S.nets vAlg hk0 (p.ins.map vFill) (p.sts.map vFill)) f)) (p.ins.map vFill) (p.sts.map vFill):=by
  rw [← hi,← hs] at hh ⊢;exact netsG_hom hφ hh S.ord S.ins S.sts vi vs
 rw [lane_ctrs hj]
 have s0:(S.seen wAlg hk0 (S.nets wAlg hk0 vi vs)).map (lane j) = S.seen vAlg hk0 (S.nets vAlg hk0 (p.ins.map vFill) (p.sts.map vFill)):=by
  rw [← hn0];exact seenG_hom hφ hk0_hom S.outs S.sts _
 have s1:(S.seen wAlg h' (S.nets wAlg h' vi vs)).map (lane j) = S.seen vAlg (hkF f (faultG vAlg (S.nets vAlg hk0 (p.ins.map vFill) (p.sts.map vFill)) f)) (S.nets vAlg (hkF f (faultG vAlg (S.nets vAlg hk0 (p.ins.map vFill) (p.sts.map vFill)) f)) (p.ins.map vFill) (p.sts.map vFill)):=by
  rw [← hn1];exact seenG_hom hφ hh S.outs S.sts _
 rw [s0,s1]
 unfold Sim.det
 simp
end Go.Pc
