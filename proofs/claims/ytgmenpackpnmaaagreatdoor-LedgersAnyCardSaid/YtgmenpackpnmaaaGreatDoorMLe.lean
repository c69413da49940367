/- Part of a proof. No condition. -/
import Derived.Test.YtgmenpackpnmaaaGreatDoorMSb
import Derived.Test.YtgmenpackpnmaaaGreatDoorMLa
import Derived.Test.YtgmenpackpnmaaaGreatDoorPcB
import Derived.Test.YtgmenpackpnmaaaGreatDoorAxE
set_option linter.unusedSimpArgs false
set_option linter.unusedVariables false
namespace Go.MInst
set_option maxHeartbeats 200000000
open Go.Proofs Go.Ax Go.Pc Go.Sort
set_option maxRecDepth 100000
def c0p (x:Int):AV:=.int .i64 x
theorem keyB:KeyOk L.env 57 3 4 c0p:=by
 refine ⟨by kernel_rfl,by kernel_rfl,fun x=>by kernel_rfl,fun x y=>?_,fun x=>by simp [c0p,b4o,b0o]⟩
 have h:aeq L.env 6 3 (c0p x) (c0p y) = some (x == y):=by kernel_rfl
 rw [h];congr 1
def a7y (l:List Int):AObj:=.map (l.map c0p) (List.replicate l.length (.bool true)) (List.range l.length) l.length
theorem b3n (l:List Int):a11 (l.map c0p) = []:=by
 induction l with
 | nil=>rfl
 | cons x l ih=>simp only [List.map_cons,a11,ih];rfl
theorem b2o (n:Nat):a11 (List.replicate n (.bool true)) = []:=by
 induction n with
 | zero=>rfl
 | succ n ih=>simp only [List.replicate_succ,a11,ih];rfl
theorem a9y (l:List Int):a64 (some (a7y l)) = []:=by
 unfold a7y;rw [b3o,b3n,b2o];rfl
theorem b1r (π:Nat → Option Nat) (l:List Int):a0h π (a7y l) = a7y l:=by
 unfold a7y
 rw [b2n,List.map_map,List.map_replicate]
 rfl
theorem b84 {h:FHeap} {b:Nat} {l:List Int} (hb:h b = some (a7y l)) (x:Int) :
 a0y L.env h 57 (.map b) (.int .i64 x) (.bool true) = some (.set b (a7y (if x ∈ l then l else l ++ [x]))):=by
 refine (keyB.update hb x (.bool true)).trans ?_
 cases hp:a9n x l with
 | none=>
  rw [if_neg (a6u hp)]
  simp only [a7y,List.length_append,List.length_cons,List.length_nil,List.map_append,List.map_cons,List.map_nil,List.replicate_succ',List.range_succ,Nat.zero_add]
 | some i=>
  have hi:=a4y hp
  rw [if_pos (List.mem_of_getElem? hi)]
  have hil:=(List.getElem?_eq_some_iff.1 hi).1
  simp only [a7y]
  congr 3
  apply List.ext_getElem?
  intro j
  rw [List.getElem?_set,List.length_replicate]
  by_cases hj:i = j
  ·subst hj;rw [if_pos rfl,if_pos hil,List.getElem?_replicate,if_pos hil]
  ·rw [if_neg hj]
theorem b83 {h:FHeap} {b:Nat} {l:List Int} (hb:h b = some (a7y l)) (x:Int) :
 a31 L.env h 57 (.map b) (.int .i64 x) false = some (.bool (decide (x ∈ l))):=by
 refine keyB.lookup (zl:=[.bool false]) (z:=.bool false) (d:=.bool) (by kernel_rfl) (by kernel_rfl) rfl (l:=l) (vs:=List.replicate l.length (.bool true)) ?_ x ?_
 ·simp only [a62,hb,a7y]
 ·cases hp:a9n x l with
  | none=>simp only [decide_eq_false (a6u hp)]
  | some i=>
   have hi:=a4y hp
   have hil:=(List.getElem?_eq_some_iff.1 hi).1
   simp only [List.getElem?_replicate,if_pos hil,decide_eq_true (List.mem_of_getElem? hi)]
theorem b82 {h:FHeap} {b:Nat} {l:List Int} (hb:h b = some (a7y l)):a9o L.env h 57 (.map b) = some (.int .i64 l.length):=by
 have hu:L.env.und 57 = some (.map 3 4):=keyB.und
 unfold a9o
 simp only [hu,hb,a7y,List.length_map]
theorem b90 (T:Nat) (F:List Int) (k:Nat) (hk:k < T):leN (a2s T F) k = (F.countP fun x=>decide (0 ≤ x ∧ x ≤ (k:Int)):Nat):=by
 unfold leN a2s
 rw [(List.mergeSort_perm _ _).countP_eq,List.countP_filter]
 congr 1
 refine List.countP_congr fun x _=>?_
 simp only [a4f,Bool.and_eq_true,Bool.not_eq_true',decide_eq_true_eq,decide_eq_false_iff_not]
 omega
theorem b87 (t:Int) (F:List Int):(a28 t [] F).Perm (dd (a2s t F)):=by
 have hs:(a2s t F).Pairwise (·≤ ·):=by
  have:=List.pairwise_mergeSort (le:=fun x y:Int=>decide (x ≤ y)) (fun a b c h1 h2=>by simp only [decide_eq_true_eq] at *;omega) (fun a b=>by simp only [Bool.or_eq_true,decide_eq_true_eq];omega) (F.filter fun x=>!a4f t x)
  exact this.imp fun h=>by simpa using h
 have hd:(dd (a2s t F)).Nodup:=(c2j _ hs).imp fun h=>by omega
 refine (List.perm_ext_iff_of_nodup (a6o t F [] List.nodup_nil) hd).2 fun z=>?_
 rw [a9r,c2i]
 unfold a2s
 rw [List.mem_mergeSort,List.mem_filter]
 simp only [a4f,List.not_mem_nil,false_or,Bool.not_eq_true',decide_eq_false_iff_not]
 exact ⟨fun h=>⟨h.1,by omega⟩,fun h=>⟨h.1,by omega,by omega⟩⟩
theorem c2k (t:Int) (F:List Int):(dd (a2s t F)).Pairwise (·< ·):=by
 refine c2j _ ?_
 have:=List.pairwise_mergeSort (le:=fun x y:Int=>decide (x ≤ y)) (fun a b c h1 h2=>by simp only [decide_eq_true_eq] at *;omega) (fun a b=>by simp only [Bool.or_eq_true,decide_eq_true_eq];omega) (F.filter fun x=>!a4f t x)
 exact this.imp fun h=>by simpa using h
theorem b5h (cf cc:Option (Option Nat)) (F:List Int) (CR:List (List AV)) (t:Int) (hF:F.length ≤ 100):∃ cu,b9x L.env 35 (sl cu ((dd (a2s t F)).map intZ)) = some (.int .i64 (dd (a2s t F)).length) ∧
 ∀ (d:Bool) H,a1i L.env d (sem L.env Mf) (.func (.func 10) [] []) [.agg [sl cf (F.map intZ),sl cc CR,.int .i64 t]] H = some (sl cu ((dd (a2s t F)).map intZ),H,[]):=by
 have hi:∀ cf,(∀ (d:Bool) H,a1i L.env d (sem L.env Mf) (.func (.func 10) [] []) [.agg [.islice (F.map intZ) cf,sl cc CR,.int .i64 t]] H = some (sl (some (some (dd (a2s t F)).length)) ((dd (a2s t F)).map intZ),H,[])):=by
  intro cf d H
  rw [a3z]
  exact a0j (by kernel_rfl) (by kernel_rfl) rfl (by simp +decide only [go_sem]<;>rfl) (b5f cf cc F CR t (by omega)) rfl
 have hc:b9x L.env 35 (sl (some (some (dd (a2s t F)).length)) ((dd (a2s t F)).map intZ)) = some (.int .i64 (dd (a2s t F)).length):=by rw [a3z];rfl
 cases cf with
 | some c=>exact ⟨_,hc,fun d H=>by rw [a3z];exact hi c d H⟩
 | none=>
  cases F with
  | nil=>
   refine ⟨none,?_,fun d H=>?_⟩
   ·rw [a97];rfl
   ·rw [a97]
    exact a0j (by kernel_rfl) (by kernel_rfl) rfl (by simp +decide only [go_sem]<;>rfl) (b5g cc CR t) rfl
  | cons x F=>exact ⟨_,hc,fun d H=>hi none d H⟩
theorem b9e (cf cc:Option (Option Nat)) (F:List Int) (CR:List (List AV)) (T:Nat) (hF:F.length ≤ 100) (hT:T ≤ 4096) (d:Bool) (H:a05) :
 a1i L.env d (sem L.env Mf) (.func (.func 11) [] []) [.agg [sl cf (F.map intZ),sl cc CR,.int .i64 T]] H = some (.islice (a2n (leN (a2s T F)) T) (some T),H,[]):=by
 have hr:a4e (.islice (a2n (leN (a2s T F)) T) (some T)) = []:=rfl
 have hi:∀ cf,a1i L.env d (sem L.env Mf) (.func (.func 11) [] []) [.agg [.islice (F.map intZ) cf,sl cc CR,.int .i64 T]] H = some (.islice (a2n (leN (a2s T F)) T) (some T),H,[]):=by
  intro cf
  exact a0j (by kernel_rfl) (by kernel_rfl) rfl (by simp +decide only [go_sem]<;>rfl) (b9c cf cc F CR T (by omega) hT) rfl
 cases cf with
 | some c=>rw [a3z];exact hi c
 | none=>
  cases F with
  | nil=>
   have h0:a2n (fun _=>0) T = a2n (leN (a2s T [])) T:=by rw [a97];exact a4b fun _ _=>rfl
   rw [← h0]
   exact a0j (by kernel_rfl) (by kernel_rfl) rfl (by simp +decide only [go_sem]<;>rfl) (b9d cc CR T hT) rfl
  | cons x F=>exact hi none
theorem lawAny_ok (cf cc:Option (Option Nat)) (F C:List Int) (t n:Int):sem L.env Mf 5 [.agg [sl cf (F.map intZ),sl cc (C.map intZ),.int .i64 t],.int .i64 n] [] = some (.bool true,[]):=by
 have hlv:=fun H=>b2t (d:=false) H
 by_cases hF:100 < F.length
 ·have c1:(100:Int) < F.length:=by omega
  (refine sv Tryz.f5 ?_;simp only [Tryz.f5,gS])
  (repeat first|simp only [ww]|(apply xa;simp +decide only [go_sem,c1,hlv,List.length_map];rfl;kernel_rfl))
  (apply fqb;simp +decide only [go_sem]<;>rfl)
 by_cases hC:100 < C.length
 ·have c1:¬ (100:Int) < F.length:=by omega
  have c2:(100:Int) < C.length:=by omega
  (refine sv Tryz.f5 ?_;simp only [Tryz.f5,gS])
  (repeat first|simp only [ww]|(apply xa;simp +decide only [go_sem,c1,c2,hlv,List.length_map];rfl;kernel_rfl))
  (apply fqb;simp +decide only [go_sem]<;>rfl)
 have c1:¬ (100:Int) < F.length:=by omega
 have c2:¬ (100:Int) < C.length:=by omega
 have hcv:=fun H=>a0j (E:=L.env) (draw:=false) (call:=sem L.env Mf) (g:=12) (fs:=[]) (cs:=[]) (ar:=[.agg [sl cf (F.map intZ),sl cc (C.map intZ),.int .i64 t],.int .i64 n]) (H:=H) (by kernel_rfl) (by kernel_rfl) rfl (by simp +decide only [go_sem]<;>rfl) (c2m cf cc (F.map intZ) C t n (by omega)) rfl
 obtain ⟨cu,hcap,hus⟩:=b5h cf cc F (C.map intZ) t (by omega)
 have hus:=hus false
 have hasc:=c2k t F
 have hper:=b87 t F
 have hDl:(dd (a2s t F)).length ≤ 100:=by rw [← hper.length_eq];have:=a9s t F [];simp at this;omega
 obtain ⟨D,hD⟩:∃ D,D = dd (a2s t F):=⟨_,rfl⟩
 rw [← hD] at hcap hus hasc hper hDl
 (refine sv Tryz.f5 ?_;simp only [Tryz.f5,gS])
 (repeat first|simp only [ww]|(apply xa;simp +decide only [go_sem,c1,c2,List.length_map];rfl;kernel_rfl))
 refine a0u (m:=0) (σ:=Nat) kp5_0 (fun i=>[(1,.int .i64 n),(2,.ptr 0 0 0),(5,.int .i64 ((C.take i).countP fun x=>decide (n ≤ x):Nat)),(6,.int .i64 i)]) (fun i=>[some (.row 3 [[sl cf (F.map intZ),sl cc (C.map intZ),.int .i64 t]])]) (fun i=>C.length - i) (fun i=>i ≤ C.length) 0 ?_ (Nat.zero_le _) ?_
 ·(simp +decide only [go_sem,a07,a02]<;>rfl)<;>rfl
 intro i hi
 by_cases hlt:i < C.length
 ·obtain ⟨x,hx⟩:∃ x,C[i]? = some x:=⟨_,z9e hlt⟩
  have hg:(C.map intZ)[i]? = some [AV.int .i64 x]:=by rw [List.getElem?_map,hx];rfl
  have d1:(i:Int) < C.length:=by omega
  have wi:=wI1 (n:=i) (by omega)
  have hcb:=List.countP_le_length (p:=fun x=>decide (n ≤ x)) (l:=C.take i)
  rw [List.length_take] at hcb
  have hsn:(C.take (i + 1)).countP (fun x=>decide (n ≤ x)) = (C.take i).countP (fun x=>decide (n ≤ x)) + if n ≤ x then 1 else 0:=by
   rw [a3y hx,List.countP_append,List.countP_cons,List.countP_nil];simp
  generalize (C.take i).countP (fun x=>decide (n ≤ x)) = u at hsn hcb ⊢
  have wu:=wI1 (n:=u) (by omega)
  by_cases hn:n ≤ x
  ·rw [if_pos hn] at hsn
   (repeat first|simp only [ww]|(apply xa;simp +decide only [go_sem,d1,hlt,hg,wi,wu,hn,List.length_map];rfl;kernel_rfl))
   refine a65 (i + 1) ?_ (by omega) (by omega)
   rw [hsn]
   (simp +decide only [go_sem,a07,a02]<;>rfl)<;>rfl
  ·rw [if_neg hn] at hsn
   (repeat first|simp only [ww]|(apply xa;simp +decide only [go_sem,d1,hlt,hg,wi,wu,hn,List.length_map];rfl;kernel_rfl))
   refine a65 (i + 1) ?_ (by omega) (by omega)
   rw [hsn]
   (simp +decide only [go_sem,a07,a02]<;>rfl)<;>rfl
 obtain rfl:i = C.length:=by omega
 have d1:¬ (C.length:Int) < C.length:=by omega
 rw [List.take_length]
 (repeat first|simp only [ww]|(apply xa;simp +decide only [go_sem,d1,hcv,hus,List.length_map];rfl;kernel_rfl))
 refine a0u (m:=0) (σ:=Nat) kp5_2 (fun i=>[(2,.ptr 0 0 0),(9,sl cu (D.map intZ)),(10,.map 1),(11,.int .i64 i)]) (fun i=>[some (.row 3 [[sl cf (F.map intZ),sl cc (C.map intZ),.int .i64 t]]),some (a7y (a28 t [] (F.take i)))]) (fun i=>F.length - i) (fun i=>i ≤ F.length) 0 ?_ (Nat.zero_le _) ?_
 ·have e0:AObj.map [] [] [] 0 = a7y (a28 t [] (F.take 0)):=rfl
  rw [e0]
  have h1:=a9y (a28 t [] (F.take 0))
  have h2:=fun π=>b1r π (a28 t [] (F.take 0))
  generalize a7y (a28 t [] (F.take 0)) = O at *
  (simp +decide only [go_sem,a07,a02,h1,h2]<;>rfl)<;>rfl
 intro i hi
 have h1:=fun l=>a9y l
 have h2:=fun π l=>b1r π l
 by_cases hlt:i < F.length
 ·obtain ⟨x,hx⟩:∃ x,F[i]? = some x:=⟨_,z9e hlt⟩
  have hg:(F.map intZ)[i]? = some [AV.int .i64 x]:=by rw [List.getElem?_map,hx];rfl
  have d1:(i:Int) < F.length:=by omega
  have wi:=wI1 (n:=i) (by omega)
  have hsn:=a7z t x (F.take i) []
  rw [← a3y hx] at hsn
  generalize a28 t [] (F.take i) = l at hsn ⊢
  by_cases h0:0 ≤ x
  ·by_cases hxt:x < t
   ·have hup:=b84 (h:=a06 [some (.row 3 [[sl cf (F.map intZ),sl cc (C.map intZ),.int .i64 t]]),some (a7y l)]) (b:=1) (l:=l) rfl x
    have hsn':a28 t [] (F.take (i + 1)) = if x ∈ l then l else l ++ [x]:=by
     rw [hsn]
     by_cases hm:x ∈ l
     ·rw [if_neg (fun h=>h.2.2 hm),if_pos hm]
     ·rw [if_pos ⟨h0,hxt,hm⟩,if_neg hm]
    rw [← hsn'] at hup
    (repeat first|simp only [ww]|(apply xa;simp +decide only [go_sem,d1,hlt,hg,h0,hxt,wi,hup,List.length_map];rfl;kernel_rfl))
    refine a65 (i + 1) ?_ (by omega) (by omega)
    (simp +decide only [go_sem,a07,a02,h1,h2]<;>rfl)<;>rfl
   ·have hsn':a28 t [] (F.take (i + 1)) = l:=by rw [hsn,if_neg (fun h=>hxt h.2.1)]
    (repeat first|simp only [ww]|(apply xa;simp +decide only [go_sem,d1,hlt,hg,h0,hxt,wi,List.length_map];rfl;kernel_rfl))
    refine a65 (i + 1) ?_ (by omega) (by omega)
    rw [hsn']
    (simp +decide only [go_sem,a07,a02,h1,h2]<;>rfl)<;>rfl
  ·have hsn':a28 t [] (F.take (i + 1)) = l:=by rw [hsn,if_neg (fun h=>h0 h.1)]
   (repeat first|simp only [ww]|(apply xa;simp +decide only [go_sem,d1,hlt,hg,h0,wi,List.length_map];rfl;kernel_rfl))
   refine a65 (i + 1) ?_ (by omega) (by omega)
   rw [hsn']
   (simp +decide only [go_sem,a07,a02,h1,h2]<;>rfl)<;>rfl
 obtain rfl:i = F.length:=by omega
 have d1:¬ (F.length:Int) < F.length:=by omega
 rw [List.take_length]
 have hmem:∀ z ∈ D,z ∈ a28 t [] F:=fun z hz=>hper.mem_iff.2 hz
 have hlen:=hper.length_eq
 generalize a28 t [] F = l at hmem hlen ⊢
 have hsl:=b82 (h:=a06 [some (.row 3 [[sl cf (F.map intZ),sl cc (C.map intZ),.int .i64 t]]),some (a7y l)]) (b:=1) (l:=l) rfl
 rw [hlen] at hsl
 (repeat first|simp only [ww]|(apply xa;simp +decide only [go_sem,d1,hsl,hcap,List.length_map];rfl;kernel_rfl))
 refine a0u (m:=0) (σ:=Nat) kp5_4 (fun i=>[(2,.ptr 0 0 0),(9,sl cu (D.map intZ)),(10,.map 1),(12,.int .i64 i)]) (fun i=>[some (.row 3 [[sl cf (F.map intZ),sl cc (C.map intZ),.int .i64 t]]),some (a7y l)]) (fun i=>D.length - i) (fun i=>i ≤ D.length) 0 ?_ (Nat.zero_le _) ?_
 ·(simp +decide only [go_sem,a07,a02,h1,h2]<;>rfl)<;>rfl
 intro i hi
 by_cases hlt:i < D.length
 ·obtain ⟨x,hx⟩:∃ x,D[i]? = some x:=⟨_,z9e hlt⟩
  have hg:(D.map intZ)[i]? = some [AV.int .i64 x]:=by rw [List.getElem?_map,hx];rfl
  have d1:(i:Int) < D.length:=by omega
  have wi:=wI1 (n:=i) (by omega)
  have hlk:=b83 (h:=a06 [some (.row 3 [[sl cf (F.map intZ),sl cc (C.map intZ),.int .i64 t]]),some (a7y l)]) (b:=1) (l:=l) rfl x
  rw [decide_eq_true (hmem x (List.mem_of_getElem? hx))] at hlk
  rcases Nat.eq_zero_or_pos i with hi0|hi0
  ·subst hi0
   have e0:((0:Nat):Int) = 0:=rfl
   (repeat first|simp only [ww]|(apply xa;simp +decide only [go_sem,d1,hlt,hg,wi,hlk,List.length_map];rfl;kernel_rfl))
   refine a65 1 ?_ (by omega) (by omega)
   (simp +decide only [go_sem,a07,a02,h1,h2]<;>rfl)<;>rfl
  ·obtain ⟨j,rfl⟩:∃ j,i = j + 1:=⟨i - 1,by omega⟩
   obtain ⟨y,hy⟩:∃ y,D[j]? = some y:=⟨_,z9e (by omega)⟩
   have hgy:(D.map intZ)[j]? = some [AV.int .i64 y]:=by rw [List.getElem?_map,hy];rfl
   have hyx:y < x:=by
    have:=List.pairwise_iff_getElem.1 hasc j (j + 1) (by omega) hlt (by omega)
    rw [(List.getElem?_eq_some_iff.1 hx).2,(List.getElem?_eq_some_iff.1 hy).2] at this
    exact this
   have c4:¬ x ≤ y:=by omega
   have c5:(0:Int) < ((j + 1:Nat):Int):=by omega
   have wj:IntKind.i64.wrap (((j + 1:Nat):Int) - 1) = (j:Nat):=by rw [w64 (by omega) (by omega)];omega
   have hjl:j < D.length:=by omega
   (repeat first|simp only [ww]|(apply xa;simp +decide only [go_sem,d1,hlt,hg,hgy,wi,hlk,c4,c5,wj,hjl,List.length_map];rfl;kernel_rfl))
   refine a65 (j + 1 + 1) ?_ (by omega) (by omega)
   (simp +decide only [go_sem,a07,a02,h1,h2]<;>rfl)<;>rfl
 obtain rfl:i = D.length:=by omega
 have d1:¬ (D.length:Int) < D.length:=by omega
 by_cases ht:t < 0 ∨ 4096 < t
 ·have hcu:=fun H=>a0j (E:=L.env) (draw:=false) (call:=sem L.env Mf) (g:=11) (fs:=[]) (cs:=[]) (ar:=[.agg [sl cf (F.map intZ),sl cc (C.map intZ),.int .i64 t]]) (H:=H) (by kernel_rfl) (by kernel_rfl) rfl (by simp +decide only [go_sem]<;>rfl) (b4g cf cc (F.map intZ) (C.map intZ) t ht) rfl
  by_cases h0:t < 0
  ·(repeat first|simp only [ww]|(apply xa;simp +decide only [go_sem,d1,hcu,h0,hlv,List.length_map];rfl;kernel_rfl))
   (apply fqb;simp +decide only [go_sem]<;>rfl)
  ·have h4:4096 < t:=by omega
   (repeat first|simp only [ww]|(apply xa;simp +decide only [go_sem,d1,hcu,h0,h4,hlv,List.length_map];rfl;kernel_rfl))
   (apply fqb;simp +decide only [go_sem]<;>rfl)
 obtain ⟨T,rfl⟩:∃ T:Nat,t = T:=⟨t.toNat,by omega⟩
 have hcu:=fun H=>b9e cf cc F (C.map intZ) T (by omega) (by omega) false H
 have k1:¬ (T:Int) < 0:=by omega
 have k2:¬ (4096:Int) < T:=by omega
 have hlT:=fun f=>a2w f T
 (repeat first|simp only [ww]|(apply xa;simp +decide only [go_sem,d1,hcu,k1,k2,hlT,List.length_map];rfl;kernel_rfl))
 have hcn:=fun k hk=>b90 T F k hk
 generalize leN (a2s T F) = g at hcn ⊢
 refine a0u (m:=0) (σ:=Nat) kp5_6 (fun k=>[(2,.ptr 0 0 0),(13,.islice (a2n g T) (some T)),(14,.int .i64 k)]) (fun k=>[some (.row 3 [[sl cf (F.map intZ),sl cc (C.map intZ),.int .i64 T]])]) (fun k=>T - k) (fun k=>k ≤ T) 0 ?_ (Nat.zero_le _) ?_
 ·(simp +decide only [go_sem,a07,a02]<;>rfl)<;>rfl
 intro k hk
 by_cases hkT:k < T
 ·have d1:(k:Int) < T:=by omega
  by_cases h200:k < 200
  ·have d2:(k:Int) < 200:=by omega
   have hgk:=a2x (f:=g) hkT
   rw [hcn k hkT] at hgk
   (repeat first|simp only [ww]|(apply xa;simp +decide only [go_sem,d1,d2,hlT,List.length_map];rfl;kernel_rfl))
   refine a0u (m:=0) (σ:=Nat) kp5_8 (fun i=>[(2,.ptr 0 0 0),(13,.islice (a2n g T) (some T)),(14,.int .i64 k),(15,.int .i64 ((F.take i).countP fun x=>decide (0 ≤ x ∧ x ≤ (k:Int)):Nat)),(16,.int .i64 i)]) (fun i=>[some (.row 3 [[sl cf (F.map intZ),sl cc (C.map intZ),.int .i64 T]])]) (fun i=>F.length - i) (fun i=>i ≤ F.length) 0 ?_ (Nat.zero_le _) ?_
   ·(simp +decide only [go_sem,a07,a02]<;>rfl)<;>rfl
   intro i hi
   by_cases hlt:i < F.length
   ·obtain ⟨x,hx⟩:∃ x,F[i]? = some x:=⟨_,z9e hlt⟩
    have hg:(F.map intZ)[i]? = some [AV.int .i64 x]:=by rw [List.getElem?_map,hx];rfl
    have d3:(i:Int) < F.length:=by omega
    have wi:=wI1 (n:=i) (by omega)
    have hcb:=List.countP_le_length (p:=fun x=>decide (0 ≤ x ∧ x ≤ (k:Int))) (l:=F.take i)
    rw [List.length_take] at hcb
    have hsn:(F.take (i + 1)).countP (fun x=>decide (0 ≤ x ∧ x ≤ (k:Int))) = (F.take i).countP (fun x=>decide (0 ≤ x ∧ x ≤ (k:Int))) + if 0 ≤ x ∧ x ≤ (k:Int) then 1 else 0:=by
     rw [a3y hx,List.countP_append,List.countP_cons,List.countP_nil];simp
    generalize (F.take i).countP (fun x=>decide (0 ≤ x ∧ x ≤ (k:Int))) = u at hsn hcb ⊢
    have wu:=wI1 (n:=u) (by omega)
    by_cases h0:0 ≤ x
    ·by_cases hxk:x ≤ (k:Int)
     ·rw [if_pos ⟨h0,hxk⟩] at hsn
      (repeat first|simp only [ww]|(apply xa;simp +decide only [go_sem,d3,hlt,hg,wi,wu,h0,hxk,List.length_map];rfl;kernel_rfl))
      refine a65 (i + 1) ?_ (by omega) (by omega)
      rw [hsn]
      (simp +decide only [go_sem,a07,a02]<;>rfl)<;>rfl
     ·rw [if_neg (fun h=>hxk h.2)] at hsn
      (repeat first|simp only [ww]|(apply xa;simp +decide only [go_sem,d3,hlt,hg,wi,wu,h0,hxk,List.length_map];rfl;kernel_rfl))
      refine a65 (i + 1) ?_ (by omega) (by omega)
      rw [hsn]
      (simp +decide only [go_sem,a07,a02]<;>rfl)<;>rfl
    ·rw [if_neg (fun h=>h0 h.1)] at hsn
     (repeat first|simp only [ww]|(apply xa;simp +decide only [go_sem,d3,hlt,hg,wi,wu,h0,List.length_map];rfl;kernel_rfl))
     refine a65 (i + 1) ?_ (by omega) (by omega)
     rw [hsn]
     (simp +decide only [go_sem,a07,a02]<;>rfl)<;>rfl
   obtain rfl:i = F.length:=by omega
   have d3:¬ (F.length:Int) < F.length:=by omega
   have wk:=wI1 (n:=k) (by omega)
   rw [List.take_length]
   (repeat first|simp only [ww]|(apply xa;simp +decide only [go_sem,d3,hgk,hkT,hlT,wk,List.length_map];rfl;kernel_rfl))
   refine a65 (k + 1) ?_ (by omega) (by omega)
   (simp +decide only [go_sem,a07,a02]<;>rfl)<;>rfl
  ·have d2:¬ (k:Int) < 200:=by omega
   (repeat first|simp only [ww]|(apply xa;simp +decide only [go_sem,d1,d2,hlT,hlv,List.length_map];rfl;kernel_rfl))
   (apply fqb;simp +decide only [go_sem]<;>rfl)
 ·obtain rfl:k = T:=by omega
  have d1:¬ (k:Int) < k:=by omega
  (repeat first|simp only [ww]|(apply xa;simp +decide only [go_sem,d1,hlT,hlv,List.length_map];rfl;kernel_rfl))
  (apply fqb;simp +decide only [go_sem]<;>rfl)
end Go.MInst
