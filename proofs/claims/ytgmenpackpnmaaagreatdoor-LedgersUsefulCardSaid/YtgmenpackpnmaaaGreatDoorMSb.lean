/- Part of a proof. No condition. -/
import Derived.Test.YtgmenpackpnmaaaGreatDoorMSa
import Derived.Test.YtgmenpackpnmaaaGreatDoorPcB
import Derived.Test.YtgmenpackpnmaaaGreatDoorAxE
import Derived.Test.YtgmenpackpnmaaaGreatDoorMLa
set_option linter.unusedSimpArgs false
set_option linter.unusedVariables false
namespace Go.MInst
set_option maxHeartbeats 200000000
open Go.Proofs Go.Ax Go.Pc Go.Sort
set_option maxRecDepth 100000
set_option maxHeartbeats 2000000
theorem a7r (d:Array Int) (b i:Nat):scanSorted ltInt d b i = if (decide (i < b) && !ltInt d[i]! d[i - 1]!) = true then scanSorted ltInt d b (i + 1) else i:=by
 conv=>lhs;unfold scanSorted
theorem a6j (b j:Nat) (d:Array Int):shiftUp ltInt b j d = if j < b then (if !ltInt d[j]! d[j - 1]! then d else shiftUp ltInt b (j + 1) (swp d j (j - 1))) else d:=by
 conv=>lhs;unfold shiftUp
theorem e2s {x:Cx} {y:Code} (m:Nat) (k:List Nat) (J:Nat → Frm → a06 → Prop) (n:Nat) (Q:b0a) (F:Frm) (H:a06):bk 5 (sq x y (lpJ m k J n (bk 4 Q))) (.exit 4) F H = Q .normal F H:=rfl
theorem d67 (n:Nat) (c:Option Nat) (d:Array Int) (rest:List (List AV)) (a b:Nat) (hrest:FlatR rest) (hn:n = d.size) (hab:a + 1 < b) (hb:b ≤ n) (hn1:n ≤ 1000) :
 sem L.env Mf 95 [.slice 0 0 n c,.int .i64 a,.int .i64 b] [some (.row 1 (rwA d ++ rest))] = some (.bool (partialInsertionSort ltInt d a b).2,[some (.row 1 (rwA (partialInsertionSort ltInt d a b).1 ++ rest))]):=by
 have hls:=fun d' H x y=>a5p (d:=d') H x y
 have w1:=wI1 (n:=a) (by omega)
 (refine sv Tryz.f95 ?_;simp only [Tryz.f95,gS])
 (repeat first|simp only [ww]|(apply xa;simp +decide only [go_sem,w1];rfl;kernel_rfl))
 refine a24 kp95_0 (fun N F H=>∃ (s i:Nat) (e:Array Int),N = s ∧ s ≤ 5 ∧ e.size = n ∧ F = [(0,.slice 0 0 n c),(1,.int .i64 a),(2,.int .i64 b),(7,.int .i64 i),(8,.int .i64 ((5 - s:Nat):Int))] ∧ H = [some (.row 1 (rwA e ++ rest))] ∧ a < i ∧ i ≤ b ∧ partialIns ltInt a b s i e = partialInsertionSort ltInt d a b) 5 ?_ ?_
 ·have f:=a07 (d:=d) hrest
  refine ⟨_,_,?_,5,a + 1,d,rfl,by omega,hn.symm,rfl,rfl,by omega,by omega,rfl⟩
  (simp +decide only [go_sem,a02,a00,a03 f,a01 _ f]<;>rfl)<;>rfl
 ·rintro N F H ⟨s,i,e,rfl,hs5,he,rfl,rfl,hi1,hi2,hR⟩
  have f:=a07 (d:=e) hrest
  cases N with
  | zero=>
   have d1:¬ ((5 - 0:Nat):Int) < 5:=by omega
   have hR:(e,false) = partialInsertionSort ltInt d a b:=hR
   rw [← hR]
   (repeat first|simp only [ww]|(apply xa;simp +decide only [go_sem,d1];rfl;kernel_rfl))
   (apply fqb;simp +decide only [go_sem,a01 _ f]<;>rfl)
  | succ s=>
   have d1:((5 - (s + 1):Nat):Int) < 5:=by omega
   have w8:IntKind.i64.wrap (((5 - (s + 1):Nat):Int) + 1) = ((5 - s:Nat):Int):=by rw [w64 (by omega) (by omega)];omega
   (repeat first|simp only [ww]|(apply xa;simp +decide only [go_sem,d1];rfl;kernel_rfl))
   have hl:n ≤ (rwA e ++ rest).length:=by rw [List.length_append,a1i];omega
   refine a0l (σ:=Nat) kp95_2 (fun u=>[(0,.slice 0 0 n c),(1,.int .i64 a),(2,.int .i64 b),(7,.int .i64 (u:Nat)),(8,.int .i64 ((5 - (s + 1):Nat):Int))]) (fun q=>[some (.row 1 (rwA e ++ rest))]) (fun q=>b - q) (fun q=>i ≤ q ∧ q ≤ b ∧ scanSorted ltInt e b q = scanSorted ltInt e b i) i ?_ ⟨by omega,by omega,rfl⟩ ?_
   ·(simp +decide only [go_sem,a02,a00,a03 f,a01 _ f]<;>rfl)<;>rfl
   ·rintro u ⟨u1,u2,hT⟩
    have wu:=wI1 (n:=u) (by omega)
    have wu1:IntKind.i64.wrap ((u:Int) - 1) = ((u - 1:Nat):Int):=by rw [w64 (by omega) (by omega)];omega
    by_cases hub:u < b
    ·have d2:(u:Int) < b:=by omega
     have ku:u < n:=by omega
     have kv:u - 1 < n:=by omega
     have gu:=a0f (d:=e) (rest:=rest) (i:=u) (by omega)
     have gv:=a0f (d:=e) (rest:=rest) (i:=u - 1) (by omega)
     cases hlt:ltInt e[u]! e[u - 1]! with
     | false=>
      (repeat first|simp only [ww]|(apply xa;simp +decide only [go_sem,d2,ku,kv,hl,gu,gv,hls,hlt,wu,wu1];rfl;kernel_rfl))
      refine a1m (u + 1) ?_ (by omega) ⟨by omega,by omega,?_⟩
      ·(simp +decide only [go_sem,a02,a00,a03 f,a01 _ f]<;>rfl)<;>rfl
      ·rw [← hT,a7r e b u,if_pos (by simp [hub,hlt])]
     | true=>
      have hu:scanSorted ltInt e b i = u:=by rw [← hT,a7r,if_neg (by simp [hlt])]
      have c1:¬ ((u:Int) = b):=by omega
      have wb:IntKind.i64.wrap ((b:Int) - a) = ((b - a:Nat):Int):=by rw [w64 (by omega) (by omega)];omega
      have wua:IntKind.i64.wrap ((u:Int) - a) = ((u - a:Nat):Int):=by rw [w64 (by omega) (by omega)];omega
      have wb2:IntKind.i64.wrap ((b:Int) - u) = ((b - u:Nat):Int):=by rw [w64 (by omega) (by omega)];omega
      unfold partialIns at hR
      simp only [hu] at hR
      rw [if_neg (by omega)] at hR
      by_cases h50:b - a < 50
      ·have c2:((b - a:Nat):Int) < 50:=by omega
       rw [if_pos h50] at hR
       rw [← hR]
       (repeat first|simp only [ww]|(apply xa;simp +decide only [go_sem,d2,ku,kv,hl,gu,gv,hls,hlt,wu1,c1,wb,c2];rfl;kernel_rfl))
       (apply fqb;simp +decide only [go_sem,a01 _ f]<;>rfl)
      ·have c2:¬ ((b - a:Nat):Int) < 50:=by omega
       rw [if_neg h50] at hR
       have s1:=a0f (d:=e) (rest:=rest) (i:=u) (by omega)
       have s2:=a0f (d:=e) (rest:=rest) (i:=(u - 1)) (by omega)
       have s3:=a2c (d:=e) (rest:=rest) (i:=u) (j:=(u - 1)) (by omega) (by omega)
       obtain ⟨y,s4⟩:=a1r (d:=e) (rest:=rest) (i:=u) (j:=(u - 1)) (x:=e[(u - 1)]!) (by omega) (by omega)
       have s5:u < n:=by omega
       have s6:(u - 1) < n:=by omega
       have s7:∀ i x,((rwA e ++ rest).set i x).length = (rwA e ++ rest).length:=fun i x=>List.length_set
       have s8:n ≤ (rwA e ++ rest).length:=by rw [List.length_append,a1i];omega
       by_cases h2:u - a ≥ 2
       ·have c3:(2:Int) ≤ ((u - a:Nat):Int):=by omega
        rw [if_pos h2] at hR
        (repeat first|simp only [ww]|(apply xa;simp +decide only [go_sem,d2,hl,hls,hlt,wu1,c1,wb,c2,wua,c3,s1,s2,s3,s4,s5,s6,s7,s8];rfl;kernel_rfl))
        have hz:(swp e u (u - 1)).size = n:=by rw [Pc.swp_size];exact he
        have f1:=a07 (d:=swp e u (u - 1)) hrest
        refine a24 kp95_4 (fun N F H=>∃ (k:Nat) (g:Array Int),N = k ∧ g.size = n ∧ F = [(0,.slice 0 0 n c),(1,.int .i64 a),(2,.int .i64 b),(7,.int .i64 (u:Nat)),(8,.int .i64 ((5 - (s + 1):Nat):Int)),(9,.int .i64 (k:Nat))] ∧ H = [some (.row 1 (rwA g ++ rest))] ∧ k < n ∧ shiftDown ltInt k g = shiftDown ltInt (u - 1) (swp e u (u - 1))) (u - 1) ?_ ?_
        ·refine ⟨_,_,?_,u - 1,swp e u (u - 1),rfl,hz,rfl,rfl,by omega,rfl⟩
         (simp +decide only [go_sem,a02,a00,a03 f1,a01 _ f1]<;>rfl)<;>rfl
        ·clear f1 hz s1 s2 s3 s4 s5 s6 s7 s8
         generalize swp e u (u - 1) = z at hR
         rintro N F H ⟨k,m,rfl,hm,rfl,rfl,hk1,hS⟩
         have f3:=a07 (d:=m) hrest
         cases N with
         | zero=>
          have d3:¬ (1:Int) ≤ ((0:Nat):Int):=by omega
          have hS:m = shiftDown ltInt (u - 1) z:=hS
          rw [← hS] at hR
          by_cases h6:b - u ≥ 2
          ·have c6:(2:Int) ≤ ((b - u:Nat):Int):=by omega
           have hR6:partialIns ltInt a b s u (shiftUp ltInt b (u + 1) m) = partialInsertionSort ltInt d a b:=by rw [← hR,if_pos h6]
           (repeat first|simp only [ww]|(apply xa;simp +decide only [go_sem,d3,wb2,c6,wu];rfl;kernel_rfl))
           refine a24 kp95_6 (fun N F H=>∃ (k:Nat) (g:Array Int),N = b + 1 - k ∧ g.size = n ∧ F = [(0,.slice 0 0 n c),(1,.int .i64 a),(2,.int .i64 b),(7,.int .i64 (u:Nat)),(8,.int .i64 ((5 - (s + 1):Nat):Int)),(10,.int .i64 (k:Nat))] ∧ H = [some (.row 1 (rwA g ++ rest))] ∧ u < k ∧ k ≤ b ∧ shiftUp ltInt b k g = shiftUp ltInt b (u + 1) m) (b + 1 - (u + 1)) ?_ ?_
           ·have f2:=a07 (d:=m) hrest
            refine ⟨_,_,?_,u + 1,m,rfl,hm,rfl,rfl,by omega,by omega,rfl⟩
            (simp +decide only [go_sem,a02,a00,a03 f2,a01 _ f2]<;>rfl)<;>rfl
           ·rintro N F H ⟨k,g,rfl,hg,rfl,rfl,hk1,hk2,hS⟩
            have f3:=a07 (d:=g) hrest
            have wk1:=wI1 (n:=k) (by omega)
            have wk2:IntKind.i64.wrap ((k:Int) - 1) = ((k - 1:Nat):Int):=by rw [w64 (by omega) (by omega)];omega
            by_cases hkb:k < b
            ·have d1:(k:Int) < b:=by omega
             have s1:=a0f (d:=g) (rest:=rest) (i:=k) (by omega)
             have s2:=a0f (d:=g) (rest:=rest) (i:=(k - 1)) (by omega)
             have s3:=a2c (d:=g) (rest:=rest) (i:=k) (j:=(k - 1)) (by omega) (by omega)
             obtain ⟨y,s4⟩:=a1r (d:=g) (rest:=rest) (i:=k) (j:=(k - 1)) (x:=g[(k - 1)]!) (by omega) (by omega)
             have s5:k < n:=by omega
             have s6:(k - 1) < n:=by omega
             have s7:∀ i x,((rwA g ++ rest).set i x).length = (rwA g ++ rest).length:=fun i x=>List.length_set
             have s8:n ≤ (rwA g ++ rest).length:=by rw [List.length_append,a1i];omega
             rw [a6j,if_pos hkb] at hS
             cases hlt:ltInt g[k]! g[k - 1]! with
             | true=>
              rw [if_neg (by simp [hlt])] at hS
              (repeat first|simp only [ww]|(apply xa;simp +decide only [go_sem,d1,wk1,wk2,hls,hlt,s1,s2,s3,s4,s5,s6,s7,s8];rfl;kernel_rfl))
              refine a12 (b + 1 - (k + 1)) (by omega) ⟨_,_,?_,k + 1,_,rfl,by rw [Pc.swp_size];exact hg,rfl,rfl,by omega,by omega,hS⟩
              have f4:=a07 (d:=swp g k (k - 1)) hrest
              (simp +decide only [go_sem,a02,a00,a03 f4,a01 _ f4]<;>rfl)<;>rfl
             | false=>
              rw [if_pos (by simp [hlt])] at hS
              rw [← hS] at hR6
              (repeat first|simp only [ww]|(apply xa;simp +decide only [go_sem,d1,wk1,wk2,hls,hlt,s1,s2,s3,s4,s5,s6,s7,s8,w8];rfl;kernel_rfl))
              refine a12 s (by omega) ⟨_,_,?_,s,u,g,rfl,by omega,hg,rfl,rfl,by omega,by omega,hR6⟩
              (simp +decide only [go_sem,a02,a00,a03 f3,a01 _ f3]<;>rfl)<;>rfl
            ·have d1:¬ (k:Int) < b:=by omega
             rw [a6j,if_neg hkb] at hS
             rw [← hS] at hR6
             (repeat first|simp only [ww]|(apply xa;simp +decide only [go_sem,d1,w8];rfl;kernel_rfl))
             refine a12 s (by omega) ⟨_,_,?_,s,u,g,rfl,by omega,hg,rfl,rfl,by omega,by omega,hR6⟩
             (simp +decide only [go_sem,a02,a00,a03 f3,a01 _ f3]<;>rfl)<;>rfl
          ·have c6:¬ (2:Int) ≤ ((b - u:Nat):Int):=by omega
           rw [if_neg h6] at hR
           (repeat first|simp only [ww]|(apply xa;simp +decide only [go_sem,d3,wb2,c6,w8];rfl;kernel_rfl))
           refine a12 s (by omega) ⟨_,_,?_,s,u,m,rfl,by omega,hm,rfl,rfl,by omega,by omega,hR⟩
           have f2:=a07 (d:=m) hrest
           (simp +decide only [go_sem,a02,a00,a03 f2,a01 _ f2]<;>rfl)<;>rfl
         | succ k=>
          have d3:(1:Int) ≤ ((k + 1:Nat):Int):=by omega
          have wk:IntKind.i64.wrap (((k + 1:Nat):Int) - 1) = (k:Nat):=by rw [w64 (by omega) (by omega)];omega
          have hS:(if !ltInt m[k + 1]! m[k]! then m else shiftDown ltInt k (swp m (k + 1) k)) = shiftDown ltInt (u - 1) z:=hS
          have s1:=a0f (d:=m) (rest:=rest) (i:=(k + 1)) (by omega)
          have s2:=a0f (d:=m) (rest:=rest) (i:=k) (by omega)
          have s3:=a2c (d:=m) (rest:=rest) (i:=(k + 1)) (j:=k) (by omega) (by omega)
          obtain ⟨y,s4⟩:=a1r (d:=m) (rest:=rest) (i:=(k + 1)) (j:=k) (x:=m[k]!) (by omega) (by omega)
          have s5:(k + 1) < n:=by omega
          have s6:k < n:=by omega
          have s7:∀ i x,((rwA m ++ rest).set i x).length = (rwA m ++ rest).length:=fun i x=>List.length_set
          have s8:n ≤ (rwA m ++ rest).length:=by rw [List.length_append,a1i];omega
          cases hlt:ltInt m[k + 1]! m[k]! with
          | true=>
           rw [if_neg (by simp [hlt])] at hS
           (repeat first|simp only [ww]|(apply xa;simp +decide only [go_sem,d3,wk,hls,hlt,s1,s2,s3,s4,s5,s6,s7,s8];rfl;kernel_rfl))
           refine a12 k (by omega) ⟨_,_,?_,k,_,rfl,by rw [Pc.swp_size];exact hm,rfl,rfl,by omega,hS⟩
           have f4:=a07 (d:=swp m (k + 1) k) hrest
           (simp +decide only [go_sem,a02,a00,a03 f4,a01 _ f4]<;>rfl)<;>rfl
          | false=>
           rw [if_pos (by simp [hlt])] at hS
           rw [← hS] at hR
           (repeat first|simp only [ww]|(apply xa;simp +decide only [go_sem,d3,wk,hls,hlt,s1,s2,s3,s4,s5,s6,s7,s8];rfl;kernel_rfl))
           rw [e2s]
           clear s1 s2 s3 s4 s5 s6 s7 s8
           by_cases h6:b - u ≥ 2
           ·have c6:(2:Int) ≤ ((b - u:Nat):Int):=by omega
            have hR6:partialIns ltInt a b s u (shiftUp ltInt b (u + 1) m) = partialInsertionSort ltInt d a b:=by rw [← hR,if_pos h6]
            (repeat first|simp only [ww]|(apply xa;simp +decide only [go_sem,d3,wb2,c6,wu];rfl;kernel_rfl))
            refine a24 kp95_6 (fun N F H=>∃ (k:Nat) (g:Array Int),N = b + 1 - k ∧ g.size = n ∧ F = [(0,.slice 0 0 n c),(1,.int .i64 a),(2,.int .i64 b),(7,.int .i64 (u:Nat)),(8,.int .i64 ((5 - (s + 1):Nat):Int)),(10,.int .i64 (k:Nat))] ∧ H = [some (.row 1 (rwA g ++ rest))] ∧ u < k ∧ k ≤ b ∧ shiftUp ltInt b k g = shiftUp ltInt b (u + 1) m) (b + 1 - (u + 1)) ?_ ?_
            ·have f2:=a07 (d:=m) hrest
             refine ⟨_,_,?_,u + 1,m,rfl,hm,rfl,rfl,by omega,by omega,rfl⟩
             (simp +decide only [go_sem,a02,a00,a03 f2,a01 _ f2]<;>rfl)<;>rfl
            ·rintro N F H ⟨k,g,rfl,hg,rfl,rfl,hk1,hk2,hS⟩
             have f3:=a07 (d:=g) hrest
             have wk1:=wI1 (n:=k) (by omega)
             have wk2:IntKind.i64.wrap ((k:Int) - 1) = ((k - 1:Nat):Int):=by rw [w64 (by omega) (by omega)];omega
             by_cases hkb:k < b
             ·have d1:(k:Int) < b:=by omega
              have s1:=a0f (d:=g) (rest:=rest) (i:=k) (by omega)
              have s2:=a0f (d:=g) (rest:=rest) (i:=(k - 1)) (by omega)
              have s3:=a2c (d:=g) (rest:=rest) (i:=k) (j:=(k - 1)) (by omega) (by omega)
              obtain ⟨y,s4⟩:=a1r (d:=g) (rest:=rest) (i:=k) (j:=(k - 1)) (x:=g[(k - 1)]!) (by omega) (by omega)
              have s5:k < n:=by omega
              have s6:(k - 1) < n:=by omega
              have s7:∀ i x,((rwA g ++ rest).set i x).length = (rwA g ++ rest).length:=fun i x=>List.length_set
              have s8:n ≤ (rwA g ++ rest).length:=by rw [List.length_append,a1i];omega
              rw [a6j,if_pos hkb] at hS
              cases hlt:ltInt g[k]! g[k - 1]! with
              | true=>
               rw [if_neg (by simp [hlt])] at hS
               (repeat first|simp only [ww]|(apply xa;simp +decide only [go_sem,d1,wk1,wk2,hls,hlt,s1,s2,s3,s4,s5,s6,s7,s8];rfl;kernel_rfl))
               refine a12 (b + 1 - (k + 1)) (by omega) ⟨_,_,?_,k + 1,_,rfl,by rw [Pc.swp_size];exact hg,rfl,rfl,by omega,by omega,hS⟩
               have f4:=a07 (d:=swp g k (k - 1)) hrest
               (simp +decide only [go_sem,a02,a00,a03 f4,a01 _ f4]<;>rfl)<;>rfl
              | false=>
               rw [if_pos (by simp [hlt])] at hS
               rw [← hS] at hR6
               (repeat first|simp only [ww]|(apply xa;simp +decide only [go_sem,d1,wk1,wk2,hls,hlt,s1,s2,s3,s4,s5,s6,s7,s8,w8];rfl;kernel_rfl))
               refine a12 s (by omega) ⟨_,_,?_,s,u,g,rfl,by omega,hg,rfl,rfl,by omega,by omega,hR6⟩
               (simp +decide only [go_sem,a02,a00,a03 f3,a01 _ f3]<;>rfl)<;>rfl
             ·have d1:¬ (k:Int) < b:=by omega
              rw [a6j,if_neg hkb] at hS
              rw [← hS] at hR6
              (repeat first|simp only [ww]|(apply xa;simp +decide only [go_sem,d1,w8];rfl;kernel_rfl))
              refine a12 s (by omega) ⟨_,_,?_,s,u,g,rfl,by omega,hg,rfl,rfl,by omega,by omega,hR6⟩
              (simp +decide only [go_sem,a02,a00,a03 f3,a01 _ f3]<;>rfl)<;>rfl
           ·have c6:¬ (2:Int) ≤ ((b - u:Nat):Int):=by omega
            rw [if_neg h6] at hR
            (repeat first|simp only [ww]|(apply xa;simp +decide only [go_sem,d3,wb2,c6,w8];rfl;kernel_rfl))
            refine a12 s (by omega) ⟨_,_,?_,s,u,m,rfl,by omega,hm,rfl,rfl,by omega,by omega,hR⟩
            have f2:=a07 (d:=m) hrest
            (simp +decide only [go_sem,a02,a00,a03 f2,a01 _ f2]<;>rfl)<;>rfl
       ·have c3:¬ (2:Int) ≤ ((u - a:Nat):Int):=by omega
        rw [if_neg h2] at hR
        have hz:(swp e u (u - 1)).size = n:=by rw [Pc.swp_size];exact he
        by_cases h6:b - u ≥ 2
        ·have c6:(2:Int) ≤ ((b - u:Nat):Int):=by omega
         have hR6:partialIns ltInt a b s u (shiftUp ltInt b (u + 1) (swp e u (u - 1))) = partialInsertionSort ltInt d a b:=by rw [← hR,if_pos h6]
         (repeat first|simp only [ww]|(apply xa;simp +decide only [go_sem,d2,hl,hls,hlt,wu1,c1,wb,c2,wua,c3,s1,s2,s3,s4,s5,s6,s7,s8,wb2,c6,wu];rfl;kernel_rfl))
         refine a24 kp95_6 (fun N F H=>∃ (k:Nat) (g:Array Int),N = b + 1 - k ∧ g.size = n ∧ F = [(0,.slice 0 0 n c),(1,.int .i64 a),(2,.int .i64 b),(7,.int .i64 (u:Nat)),(8,.int .i64 ((5 - (s + 1):Nat):Int)),(10,.int .i64 (k:Nat))] ∧ H = [some (.row 1 (rwA g ++ rest))] ∧ u < k ∧ k ≤ b ∧ shiftUp ltInt b k g = shiftUp ltInt b (u + 1) (swp e u (u - 1))) (b + 1 - (u + 1)) ?_ ?_
         ·have f2:=a07 (d:=(swp e u (u - 1))) hrest
          refine ⟨_,_,?_,u + 1,(swp e u (u - 1)),rfl,hz,rfl,rfl,by omega,by omega,rfl⟩
          (simp +decide only [go_sem,a02,a00,a03 f2,a01 _ f2]<;>rfl)<;>rfl
         ·rintro N F H ⟨k,g,rfl,hg,rfl,rfl,hk1,hk2,hS⟩
          have f3:=a07 (d:=g) hrest
          have wk1:=wI1 (n:=k) (by omega)
          have wk2:IntKind.i64.wrap ((k:Int) - 1) = ((k - 1:Nat):Int):=by rw [w64 (by omega) (by omega)];omega
          by_cases hkb:k < b
          ·have d1:(k:Int) < b:=by omega
           have s1:=a0f (d:=g) (rest:=rest) (i:=k) (by omega)
           have s2:=a0f (d:=g) (rest:=rest) (i:=(k - 1)) (by omega)
           have s3:=a2c (d:=g) (rest:=rest) (i:=k) (j:=(k - 1)) (by omega) (by omega)
           obtain ⟨y,s4⟩:=a1r (d:=g) (rest:=rest) (i:=k) (j:=(k - 1)) (x:=g[(k - 1)]!) (by omega) (by omega)
           have s5:k < n:=by omega
           have s6:(k - 1) < n:=by omega
           have s7:∀ i x,((rwA g ++ rest).set i x).length = (rwA g ++ rest).length:=fun i x=>List.length_set
           have s8:n ≤ (rwA g ++ rest).length:=by rw [List.length_append,a1i];omega
           rw [a6j,if_pos hkb] at hS
           cases hlt:ltInt g[k]! g[k - 1]! with
           | true=>
            rw [if_neg (by simp [hlt])] at hS
            (repeat first|simp only [ww]|(apply xa;simp +decide only [go_sem,d1,wk1,wk2,hls,hlt,s1,s2,s3,s4,s5,s6,s7,s8];rfl;kernel_rfl))
            refine a12 (b + 1 - (k + 1)) (by omega) ⟨_,_,?_,k + 1,_,rfl,by rw [Pc.swp_size];exact hg,rfl,rfl,by omega,by omega,hS⟩
            have f4:=a07 (d:=swp g k (k - 1)) hrest
            (simp +decide only [go_sem,a02,a00,a03 f4,a01 _ f4]<;>rfl)<;>rfl
           | false=>
            rw [if_pos (by simp [hlt])] at hS
            rw [← hS] at hR6
            (repeat first|simp only [ww]|(apply xa;simp +decide only [go_sem,d1,wk1,wk2,hls,hlt,s1,s2,s3,s4,s5,s6,s7,s8,w8];rfl;kernel_rfl))
            refine a12 s (by omega) ⟨_,_,?_,s,u,g,rfl,by omega,hg,rfl,rfl,by omega,by omega,hR6⟩
            (simp +decide only [go_sem,a02,a00,a03 f3,a01 _ f3]<;>rfl)<;>rfl
          ·have d1:¬ (k:Int) < b:=by omega
           rw [a6j,if_neg hkb] at hS
           rw [← hS] at hR6
           (repeat first|simp only [ww]|(apply xa;simp +decide only [go_sem,d1,w8];rfl;kernel_rfl))
           refine a12 s (by omega) ⟨_,_,?_,s,u,g,rfl,by omega,hg,rfl,rfl,by omega,by omega,hR6⟩
           (simp +decide only [go_sem,a02,a00,a03 f3,a01 _ f3]<;>rfl)<;>rfl
        ·have c6:¬ (2:Int) ≤ ((b - u:Nat):Int):=by omega
         rw [if_neg h6] at hR
         (repeat first|simp only [ww]|(apply xa;simp +decide only [go_sem,d2,hl,hls,hlt,wu1,c1,wb,c2,wua,c3,s1,s2,s3,s4,s5,s6,s7,s8,wb2,c6,w8];rfl;kernel_rfl))
         refine a12 s (by omega) ⟨_,_,?_,s,u,(swp e u (u - 1)),rfl,by omega,hz,rfl,rfl,by omega,by omega,hR⟩
         have f2:=a07 (d:=(swp e u (u - 1))) hrest
         (simp +decide only [go_sem,a02,a00,a03 f2,a01 _ f2]<;>rfl)<;>rfl
    ·have d2:¬ (u:Int) < b:=by omega
     have hu:scanSorted ltInt e b i = u:=by rw [← hT,a7r,if_neg (by simp [hub])]
     unfold partialIns at hR
     simp only [hu] at hR
     rw [if_pos (by omega)] at hR
     rw [← hR]
     obtain rfl:u = b:=by omega
     (repeat first|simp only [ww]|(apply xa;simp +decide only [go_sem,d2];rfl;kernel_rfl))
     (apply fqb;simp +decide only [go_sem,a01 _ f]<;>rfl)
def xn (x:BitVec 64):BitVec 64:=
 let r:=x ^^^ (x <<< 13)
 let r:=r ^^^ (r >>> 7)
 r ^^^ (r <<< 17)
theorem e07 (r:UInt64):(xorNext r).toBitVec = xn r.toBitVec:=rfl
theorem d6i (x:BitVec 64):sem L.env Mf 136 [.ptr 0 0 0] [some (.row 1 [[u64 x]])] = some (u64 (xn x),[some (.row 1 [[u64 (xn x)]])]):=by
 (refine sv Tryz.f136 ?_;simp only [Tryz.f136,gS])
 (repeat first|simp only [ww]|(apply xa;simp +decide only [go_sem];rfl;kernel_rfl))
 (apply fqb;simp +decide only [go_sem,xn]<;>rfl)
theorem c12 {M:List Fact} {g:FuncId} {args:List AV} {H:a06} {r:AV × a06} {call:CallF} (hc:∀ g args H r,call g args H = some r → sem L.env M g args H = some r) (hno:∀ x ∈ M,x.g ≠ g) (lf:Nat) (h:a91 L.env call lf g args H = some r):sem L.env M g args H = some r:=
 b0g.2 (.run g args H r call lf (fun g a H r h=>b0g.1 (hc g a H r h)) hno h)
def c0:CallF:=fun _ _ _=>none
noncomputable def c1:CallF:=fun g args H=>if g = 100 then a91 L.env c0 9 g args H else none
noncomputable def c2:CallF:=fun g args H=>if g = 57 then a91 L.env c1 9 g args H else none
theorem e2p:∀ g args H r,c1 g args H = some r → sem L.env Mf g args H = some r:=by
 intro g args H r h
 unfold c1 at h
 split at h
 ·rename_i e;subst e
  exact c12 (fun _ _ _ _ h=>by cases h) (by decide) 9 h
 ·cases h
theorem e7k:∀ g args H r,c2 g args H = some r → sem L.env Mf g args H = some r:=by
 intro g args H r h
 unfold c2 at h
 split at h
 ·rename_i e;subst e
  exact c12 e2p (by decide) 9 h
 ·cases h
theorem e1b:(List.range 129).map (fun (n:Nat)=>a91 L.env c2 9 135 [.int .i64 n] []) = (List.range 129).map fun (n:Nat)=>some (.int .u64 ((1 <<< bitsLen n:Nat):Int),[]):=by kernel_rfl
theorem e6a (n:Nat) (h:n < 129):sem L.env Mf 135 [.int .i64 n] [] = some (u64 (BitVec.ofNat 64 (1 <<< bitsLen n)),[]):=by
 have k:=congrArg (fun l=>l[n]?) e1b
 simp only [List.getElem?_map,List.getElem?_range h,Option.map_some,Option.some.injEq] at k
 have hb:(List.range 129).all (fun n=>decide (1 <<< bitsLen n < 300)) = true:=by kernel_rfl
 have hb:=of_decide_eq_true (List.all_eq_true.1 hb n (List.mem_range.2 h))
 rw [← d50 _ (by omega)]
 exact c12 e7k (by decide) 9 k
theorem e6b (n:Nat) (h:n < 129) (h8:8 ≤ n):1 <<< bitsLen n ≤ 2 * n ∧ 0 < 1 <<< bitsLen n:=by
 have hb:(List.range 129).all (fun n=>decide (8 ≤ n → 1 <<< bitsLen n ≤ 2 * n ∧ 0 < 1 <<< bitsLen n)) = true:=by kernel_rfl
 exact of_decide_eq_true (List.all_eq_true.1 hb n (List.mem_range.2 h)) h8
theorem c7w (x:BitVec 64):FlatO (some (.row 1 [[u64 x]])):=FlatO.row (by intro r hr;simp only [List.mem_singleton] at hr;subst hr;rfl)
def bpR (a l m:Nat):Nat → UInt64 × Array Int → Nat → Array Int
 | 0,st,_=>st.2
 | k + 1,st,i=>bpR a l m k (breakStep a l m st i) (i + 1)
theorem f2v (d:Array Int) (a b:Nat) (h:b - a ≥ 8):breakPatterns d a b = bpR a (b - a) (1 <<< bitsLen (b - a)) 3 (UInt64.ofNat (b - a),d) (a + (b - a) / 4 * 2 - 1):=by
 unfold breakPatterns;rw [if_pos h];rfl
theorem e7o (n:Nat) (c:Option Nat) (d:Array Int) (rest:List (List AV)) (a b:Nat) (hrest:FlatR rest) (hn:n = d.size) (hab:a + 12 < b) (hb:b ≤ n) (hn1:n ≤ 128) :
 sem L.env Mf 92 [.slice 0 0 n c,.int .i64 a,.int .i64 b] [some (.row 1 (rwA d ++ rest))] = some (.tuple [],[some (.row 1 (rwA (breakPatterns d a b) ++ rest))]):=by
 have h0:a45 [] = .tuple []:=rfl
 have f:=a07 (d:=d) hrest
 obtain ⟨l,hl⟩:∃ l,b = a + l:=⟨b - a,by omega⟩
 have hT:=f2v d a b (by omega)
 rw [show b - a = l by omega] at hT
 have w1:IntKind.i64.wrap ((b:Int) - a) = (l:Int):=by rw [w64 (by omega) (by omega)];omega
 have d1:(8:Int) ≤ l:=by omega
 have w2:IntKind.i64.wrap ((l / 4:Nat):Int) = ((l / 4:Nat):Int):=w64 (by omega) (by omega)
 have w4:IntKind.i64.wrap (((l / 4:Nat):Int) * 2) = ((l / 4 * 2:Nat):Int):=by rw [w64 (by omega) (by omega)];omega
 have w5:IntKind.i64.wrap ((a:Int) + ((l / 4 * 2:Nat):Int)) = ((a + l / 4 * 2:Nat):Int):=by rw [w64 (by omega) (by omega)];omega
 obtain ⟨i0,hi0⟩:∃ i0,i0 = a + l / 4 * 2 - 1:=⟨_,rfl⟩
 have w6:IntKind.i64.wrap (((a + l / 4 * 2:Nat):Int) - 1) = (i0:Int):=by rw [w64 (by omega) (by omega)];omega
 have w7:IntKind.i64.wrap (((a + l / 4 * 2:Nat):Int) + 1) = ((i0 + 2:Nat):Int):=by rw [w64 (by omega) (by omega)];omega
 rw [← hi0] at hT
 obtain ⟨hm1,hm2⟩:=e6b l (by omega) (by omega)
 have hnp:=a05 (E:=L.env) (draw:=false) (call:=sem L.env Mf) (g:=135) (fs:=[]) (cs:=[]) (ar:=[.int .i64 l]) (H:=[some (.row 1 (rwA d ++ rest)),some (.row 1 [[u64 (BitVec.ofInt 64 l)]])]) (by kernel_rfl) (by kernel_rfl) rfl rfl (e6a l (by omega)) rfl
 obtain ⟨m,hm⟩:∃ m,m = 1 <<< bitsLen l:=⟨_,rfl⟩
 rw [← hm] at hm1 hm2 hnp hT
 (refine sv Tryz.f92 ?_;simp only [Tryz.f92,gS])
 (repeat first|simp only [ww]|(apply xa;simp +decide only [go_sem,w1,d1,w2,w4,w5,w6,hnp];rfl;kernel_rfl))
 refine a24 kp92_0 (fun N F H=>∃ (k:Nat) (r:UInt64) (e:Array Int),N = k ∧ k ≤ 3 ∧ e.size = n ∧ F = [(0,.slice 0 0 n c),(1,.int .i64 a),(6,.int .i64 l),(7,.ptr 1 0 0),(8,u64 (BitVec.ofNat 64 m)),(9,.int .i64 ((i0 + (3 - k):Nat):Int))] ∧ H = [some (.row 1 (rwA e ++ rest)),some (.row 1 [[u64 r.toBitVec]])] ∧ bpR a l m k (r,e) (i0 + (3 - k)) = breakPatterns d a b) 3 ?_ ?_
 ·refine ⟨[(0,.slice 0 0 n c),(1,.int .i64 a),(6,.int .i64 l),(7,.ptr 1 0 0),(8,u64 (BitVec.ofNat 64 m)),(9,.int .i64 i0)],[some (.row 1 (rwA d ++ rest)),some (.row 1 [[u64 (BitVec.ofInt 64 l)]])],by (simp +decide only [go_sem,a02,a00,a03 f,a01 _ f]<;>rfl)<;>rfl,3,UInt64.ofNat l,d,rfl,by omega,hn.symm,rfl,?_,hT.symm⟩
  rw [BitVec.ofInt_natCast];rfl
 ·rintro N F H ⟨k,r,e,rfl,hk,he,rfl,rfl,hR⟩
  have fe:=a07 (d:=e) hrest
  cases N with
  | zero=>
   have d2:¬ ((i0 + (3 - 0):Nat):Int) ≤ ((i0 + 2:Nat):Int):=by omega
   have hR:e = breakPatterns d a b:=hR
   rw [← hR]
   (repeat first|simp only [ww]|(apply xa;simp +decide only [go_sem,d2,w2,w4,w5,w7];rfl;kernel_rfl))
   (apply fqb;simp +decide only [go_sem,h0,a01 _ fe]<;>rfl)
  | succ k=>
   obtain ⟨i,hi⟩:∃ i,i = i0 + (3 - (k + 1)):=⟨_,rfl⟩
   have hi2:i0 + (3 - k) = i + 1:=by omega
   rw [← hi] at hR ⊢
   have d2:(i:Int) ≤ ((i0 + 2:Nat):Int):=by omega
   have wi:=wI1 (n:=i) (by omega)
   have hx:=a1y (E:=L.env) (draw:=false) (call:=sem L.env Mf) (g:=136) (fs:=[]) (cs:=[]) (ar:=[.ptr 1 0 0]) (H:=[some (.row 1 (rwA e ++ rest)),some (.row 1 [[u64 r.toBitVec]])]) (b:=1) (by kernel_rfl) (by kernel_rfl) rfl rfl rfl (c7w _) rfl rfl (d6i r.toBitVec) (c7w _) rfl
   have hst:breakStep a l m (r,e) i = (xorNext r,swp e i (a + (if (xorNext r).toNat &&& (m - 1) ≥ l then ((xorNext r).toNat &&& (m - 1)) - l else (xorNext r).toNat &&& (m - 1)))):=rfl
   rw [← e07] at hx
   obtain ⟨o,ho⟩:∃ o,o = (xorNext r).toNat &&& (m - 1):=⟨_,rfl⟩
   have ho1:o ≤ m - 1:=by rw [ho];exact Nat.and_le_right
   rw [← ho] at hst
   have hw:IntKind.i64.wrap ((((xorNext r).toBitVec &&& BitVec.ofNat 64 m - BitVec.ofInt 64 1).toNat:Nat):Int) = (o:Nat):=by
    have h1:(BitVec.ofNat 64 m - BitVec.ofInt 64 1).toNat = m - 1:=by
     have:BitVec.ofInt 64 1 = 1#64:=rfl
     rw [this,BitVec.toNat_sub,BitVec.toNat_ofNat,BitVec.toNat_ofNat];omega
    rw [BitVec.toNat_and,h1]
    rw [show (xorNext r).toBitVec.toNat &&& (m - 1) = o from ho.symm]
    exact w64 (by omega) (by omega)
   have hR:bpR a l m k (breakStep a l m (r,e) i) (i + 1) = breakPatterns d a b:=hR
   rw [hst] at hR
   by_cases hol:o ≥ l
   ·have d3:(l:Int) ≤ o:=by omega
    have wo:IntKind.i64.wrap ((o:Int) - l) = ((o - l:Nat):Int):=by rw [w64 (by omega) (by omega)];omega
    have wa:IntKind.i64.wrap ((a:Int) + ((o - l:Nat):Int)) = ((a + (o - l):Nat):Int):=by rw [w64 (by omega) (by omega)];omega
    rw [if_pos hol] at hR
    have s1:=a0f (d:=e) (rest:=rest) (i:=i) (by omega)
    have s2:=a0f (d:=e) (rest:=rest) (i:=(a + (o - l))) (by omega)
    have s3:=a2c (d:=e) (rest:=rest) (i:=i) (j:=(a + (o - l))) (by omega) (by omega)
    obtain ⟨y,s4⟩:=a1r (d:=e) (rest:=rest) (i:=i) (j:=(a + (o - l))) (x:=e[(a + (o - l))]!) (by omega) (by omega)
    have s5:i < n:=by omega
    have s6:(a + (o - l)) < n:=by omega
    have s7:∀ i x,((rwA e ++ rest).set i x).length = (rwA e ++ rest).length:=fun i x=>List.length_set
    have s8:n ≤ (rwA e ++ rest).length:=by rw [List.length_append,a1i];omega
    (repeat first|simp only [ww]|(apply xa;simp +decide only [go_sem,d2,w2,w4,w5,w7,hx,hw,d3,wo,wa,wi,s1,s2,s3,s4,s5,s6,s7,s8];rfl;kernel_rfl))
    refine a12 k (by omega) ⟨[(0,.slice 0 0 n c),(1,.int .i64 a),(6,.int .i64 l),(7,.ptr 1 0 0),(8,u64 (BitVec.ofNat 64 m)),(9,.int .i64 ((i + 1:Nat):Int))],_,?_,k,xorNext r,swp e i (a + (o - l)),rfl,by omega,by rw [Pc.swp_size];exact he,by rw [hi2],rfl,by rw [hi2];exact hR⟩
    have f2:=a07 (d:=swp e i (a + (o - l))) hrest
    (simp +decide only [go_sem,a02,a00,a03 f2,a01 _ f2]<;>rfl)<;>rfl
   ·have d3:¬ (l:Int) ≤ o:=by omega
    have wa:IntKind.i64.wrap ((a:Int) + (o:Int)) = ((a + o:Nat):Int):=by rw [w64 (by omega) (by omega)];omega
    rw [if_neg hol] at hR
    have s1:=a0f (d:=e) (rest:=rest) (i:=i) (by omega)
    have s2:=a0f (d:=e) (rest:=rest) (i:=(a + o)) (by omega)
    have s3:=a2c (d:=e) (rest:=rest) (i:=i) (j:=(a + o)) (by omega) (by omega)
    obtain ⟨y,s4⟩:=a1r (d:=e) (rest:=rest) (i:=i) (j:=(a + o)) (x:=e[(a + o)]!) (by omega) (by omega)
    have s5:i < n:=by omega
    have s6:(a + o) < n:=by omega
    have s7:∀ i x,((rwA e ++ rest).set i x).length = (rwA e ++ rest).length:=fun i x=>List.length_set
    have s8:n ≤ (rwA e ++ rest).length:=by rw [List.length_append,a1i];omega
    (repeat first|simp only [ww]|(apply xa;simp +decide only [go_sem,d2,w2,w4,w5,w7,hx,hw,d3,wa,wi,s1,s2,s3,s4,s5,s6,s7,s8];rfl;kernel_rfl))
    refine a12 k (by omega) ⟨[(0,.slice 0 0 n c),(1,.int .i64 a),(6,.int .i64 l),(7,.ptr 1 0 0),(8,u64 (BitVec.ofNat 64 m)),(9,.int .i64 ((i + 1:Nat):Int))],_,?_,k,xorNext r,swp e i (a + o),rfl,by omega,by rw [Pc.swp_size];exact he,by rw [hi2],rfl,by rw [hi2];exact hR⟩
    have f2:=a07 (d:=swp e i (a + o)) hrest
    (simp +decide only [go_sem,a02,a00,a03 f2,a01 _ f2]<;>rfl)<;>rfl
theorem b2z (h:Hint):(b1f h = 2 ↔ h = .decreasing) ∧ (b1f h = 1 ↔ h = .increasing):=by cases h<;>decide
def e7z (R:Frm → a06 → Prop):b0a:=fun e F H=>e = AExit.normal ∧ R F H
theorem d10 {R:Frm → a06 → Prop} {F:Frm} {H:a06} (h:R F H):e7z R .normal F H:=⟨rfl,h⟩
def NrQ (R:Frm → a06 → Prop) (H0:a06):b0a:=fun e F H=>(e = AExit.normal ∧ R F H) ∨ (e = AExit.ret ∧ H = H0)
theorem e91 {R:Frm → a06 → Prop} {H0:a06} {F:Frm} {H:a06} (h:R F H):NrQ R H0 .normal F H:=.inl ⟨rfl,h⟩
theorem f1n {R:Frm → a06 → Prop} {H0:a06} {F:Frm} {H:a06} (h:H = H0):NrQ R H0 .ret F H:=.inr ⟨rfl,h⟩
theorem e10 (n:Nat) (c:Option Nat) (rest:List (List AV)) (hrest:FlatR rest) (hn1:n ≤ 128):∀ (sz:Nat) (d:Array Int) (a b lim:Nat),b - a < sz → n = d.size → a ≤ b → b ≤ n → lim ≤ 1000 → Below ltInt a b d →
 sem L.env Mf 56 [.slice 0 0 n c,.int .i64 a,.int .i64 b,.int .i64 lim] [some (.row 1 (rwA d ++ rest))] = some (.tuple [],[some (.row 1 (rwA (pdq ltInt d a b lim true true) ++ rest))]):=by
 have hls:=fun d' H x y=>a5p (d:=d') H x y
 have h0:a45 [] = .tuple []:=rfl
 intro sz
 induction sz with
 | zero=>intro d a b lim h;omega
 | succ sz IH=>
 intro d a0 b0 lim0 hsz hn hab0 hb0 hlim0 hB0
 have f:=a07 (d:=d) hrest
 have IHc:=fun (dd:Bool) (d:Array Int) (a b lim:Nat) (h1:b - a < sz) (h2:n = d.size) (h3:a ≤ b) (h4:b ≤ n) (h5:lim ≤ 1000) (h6:Below ltInt a b d)=>b3k (d:=dd) (by kernel_rfl) (by kernel_rfl) (a07 (d:=d) hrest) (a07 (d:=pdq ltInt d a b lim true true) hrest) rfl rfl rfl (IH d a b lim h1 h2 h3 h4 h5 h6)
 (refine sv Tryz.f56 ?_;simp only [Tryz.f56,gS])
 (repeat first|simp only [ww]|(apply xa;simp +decide only [go_sem];rfl;kernel_rfl))
 refine a24 kp56_0 (fun N F H=>∃ (a b lim:Nat) (wb wp:Bool) (e:Array Int),N = b - a ∧ b - a < sz + 1 ∧ e.size = n ∧ a ≤ b ∧ b ≤ n ∧ lim ≤ 1000 ∧ Below ltInt a b e ∧ F = [(0,.slice 0 0 n c),(1,.int .i64 a),(2,.int .i64 b),(3,.int .i64 lim),(8,.bool wb),(9,.bool wp)] ∧ H = [some (.row 1 (rwA e ++ rest))] ∧ pdq ltInt e a b lim wb wp = pdq ltInt d a0 b0 lim0 true true) (b0 - a0) ?_ ?_
 ·exact ⟨_,_,by (simp +decide only [go_sem,a02,a00,a03 f,a01 _ f]<;>rfl)<;>rfl,a0,b0,lim0,true,true,d,rfl,hsz,hn.symm,hab0,hb0,hlim0,hB0,rfl,rfl,rfl⟩
 ·generalize pdq ltInt d a0 b0 lim0 true true = FIN
  rintro N F H ⟨a,b,lim,wb,wp,e,rfl,hba,he,hab,hb,hlim,hB,rfl,rfl,hR⟩
  have fe:=a07 (d:=e) hrest
  rw [e64] at hR
  have w1:IntKind.i64.wrap ((b:Int) - a) = ((b - a:Nat):Int):=by rw [w64 (by omega) (by omega)];omega
  by_cases h12:b - a ≤ 12
  ·rw [if_pos h12] at hR
   have c1:((b - a:Nat):Int) ≤ 12:=by omega
   have k1:=b3k (d:=false) (by kernel_rfl) (by kernel_rfl) fe (a07 (d:=insertionSort ltInt e a b) hrest) rfl rfl rfl (e1p n c e rest a b hrest he.symm hab hb (by omega))
   rw [← hR]
   have f2:=a07 (d:=insertionSort ltInt e a b) hrest
   (repeat first|simp only [ww]|(apply xa;simp +decide only [go_sem,w1,c1,k1];rfl;kernel_rfl))
   (apply fqb;simp +decide only [go_sem,h0,a01 _ f2]<;>rfl)
  ·rw [if_neg h12] at hR
   have c1:¬ ((b - a:Nat):Int) ≤ 12:=by omega
   by_cases hl0:lim = 0
   ·rw [if_pos hl0] at hR
    have c2:(lim:Int) = 0:=by omega
    have k1:=b3k (d:=false) (by kernel_rfl) (by kernel_rfl) fe (a07 (d:=heapSort ltInt e a b) hrest) rfl rfl rfl (d73 n c e rest a b hrest he.symm (by omega) hb (by omega))
    rw [← hR]
    have f2:=a07 (d:=heapSort ltInt e a b) hrest
    (repeat first|simp only [ww]|(apply xa;simp +decide only [go_sem,w1,c1,c2,k1];rfl;kernel_rfl))
    (apply fqb;simp +decide only [go_sem,h0,a01 _ f2]<;>rfl)
   ·rw [if_neg hl0] at hR
    have c2:¬ (lim:Int) = 0:=by omega
    (repeat first|simp only [ww]|(apply xa;simp +decide only [go_sem,w1,c1,c2];rfl;kernel_rfl))
    -- breakPatterns
    refine b1x (Q:=e7z fun F1 H1=>∃ (d1:Array Int) (l1:Nat),d1.size = n ∧ l1 ≤ 1000 ∧ Below ltInt a b d1 ∧ a25 F1 0 = .slice 0 0 n c ∧ a25 F1 1 = .int .i64 a ∧ a25 F1 2 = .int .i64 b ∧ a25 F1 3 = .int .i64 l1 ∧ a25 F1 8 = .bool wb ∧ a25 F1 9 = .bool wp ∧ a25 F1 10 = .int .i64 (b - a:Nat) ∧ H1 = [some (.row 1 (rwA d1 ++ rest))] ∧ e3w d1 a b l1 wb wp = FIN) ?_ ?_
    ·cases wb with
     | true=>
      (repeat first|simp only [ww]|(apply xa;simp +decide only [go_sem];rfl;kernel_rfl))
      refine d10 ⟨e,lim,he,hlim,hB,?_,?_,?_,?_,?_,?_,?_,rfl,hR⟩<;>rfl
     | false=>
      have k1:=b3k (d:=false) (by kernel_rfl) (by kernel_rfl) fe (a07 (d:=breakPatterns e a b) hrest) rfl rfl rfl (e7o n c e rest a b hrest he.symm (by omega) hb hn1)
      have w2:IntKind.i64.wrap ((lim:Int) - 1) = ((lim - 1:Nat):Int):=by rw [w64 (by omega) (by omega)];omega
      have p1:PermIn a b e (breakPatterns e a b):=breakPatterns_holds e a b hab (by omega)
      (repeat first|simp only [ww]|(apply xa;simp +decide only [go_sem,k1,w2];rfl;kernel_rfl))
      refine d10 ⟨_,lim - 1,p1.1.trans he,by omega,hB.perm (by omega) p1,?_,?_,?_,?_,?_,?_,?_,rfl,hR⟩<;>rfl
    rintro e1 F1 H1 ⟨rfl,d1,l1,hd1,hl1,hB1,g0,g1,g2,g3,g8,g9,g10,rfl,hR1⟩
    clear hR fe w1
    have fe:=a07 (d:=d1) hrest
    obtain ⟨hc1,hc2⟩:=choosePivot_holds ltInt d1 a b (by omega)
    unfold e3w at hR1
    have k1:=b3k (d:=false) (by kernel_rfl) (by kernel_rfl) fe fe rfl rfl rfl (d0t n c d1 rest a b hrest hd1.symm (by omega) hb (by omega))
    generalize choosePivot ltInt d1 a b = cp at *
    obtain ⟨p,hint⟩:=cp
    (repeat first|simp only [ww]|(apply xa;simp +decide only [go_sem,k1,g0,g1,g2];rfl;kernel_rfl))
    -- reverseRange
    refine b1x (Q:=e7z fun F2 H2=>∃ (d2:Array Int) (p2:Nat) (hint2:Hint),d2.size = n ∧ a ≤ p2 ∧ p2 < b ∧ Below ltInt a b d2 ∧ a25 F2 0 = .slice 0 0 n c ∧ a25 F2 1 = .int .i64 a ∧ a25 F2 2 = .int .i64 b ∧ a25 F2 3 = .int .i64 l1 ∧ a25 F2 8 = .bool wb ∧ a25 F2 9 = .bool wp ∧ a25 F2 10 = .int .i64 (b - a:Nat) ∧ a25 F2 11 = .int .i64 p2 ∧ a25 F2 12 = .int .i64 (b1f hint2) ∧ H2 = [some (.row 1 (rwA d2 ++ rest))] ∧ e11 d2 a b l1 wb wp p2 hint2 = FIN) ?_ ?_
    ·by_cases hd:hint = .decreasing
     ·rw [if_pos hd] at hR1
      have c3:=(b2z hint).1.2 hd
      have k2:=b3k (d:=false) (by kernel_rfl) (by kernel_rfl) fe (a07 (d:=reverseRange d1 a b) hrest) rfl rfl rfl (e0r n c d1 rest a b hrest hd1.symm (by omega) hb (by omega))
      have p1:PermIn a b d1 (reverseRange d1 a b):=reverseRange_holds d1 a b hab (by omega)
      have w2:IntKind.i64.wrap ((b:Int) - 1) = ((b - 1:Nat):Int):=by rw [w64 (by omega) (by omega)];omega
      have w3:IntKind.i64.wrap ((p:Int) - a) = ((p - a:Nat):Int):=by rw [w64 (by omega) (by omega)];omega
      have w4:IntKind.i64.wrap (((b - 1:Nat):Int) - ((p - a:Nat):Int)) = ((b - 1 - (p - a):Nat):Int):=by rw [w64 (by omega) (by omega)];omega
      (repeat first|simp only [ww]|(apply xa;simp +decide only [go_sem,k2,g0,g1,g2,w2,w3,w4,c3];rfl;kernel_rfl))
      refine d10 ⟨_,b - 1 - (p - a),.increasing,p1.1.trans hd1,by omega,by omega,hB1.perm (by omega) p1,?_,?_,?_,?_,?_,?_,?_,?_,?_,rfl,hR1⟩<;>first|rfl|assumption
     ·rw [if_neg hd] at hR1
      have c3:¬ b1f hint = 2:=fun h=>hd ((b2z hint).1.1 h)
      (repeat first|simp only [ww]|(apply xa;simp +decide only [go_sem,c3];rfl;kernel_rfl))
      refine d10 ⟨d1,p,hint,hd1,hc1,hc2,hB1,?_,?_,?_,?_,?_,?_,?_,?_,?_,rfl,hR1⟩<;>first|rfl|assumption
    clear k1 hR1 hc1 hc2 g0 g1 g2 g3 g8 g9 g10 fe hint
    rintro e1 F2 H2 ⟨rfl,d2,p2,hint,hd2,hp1,hp2,hB2,g0,g1,g2,g3,g8,g9,g10,g11,g12,rfl,hR2⟩
    have fe:=a07 (d:=d2) hrest
    unfold e11 at hR2
    simp only at hR2
    simp only [ww]
    refine d4r (fun F3 H3=>a25 F3 0 = .slice 0 0 n c ∧ a25 F3 1 = .int .i64 a ∧ a25 F3 2 = .int .i64 b ∧ a25 F3 3 = .int .i64 l1 ∧ a25 F3 8 = .bool wb ∧ a25 F3 9 = .bool wp ∧ a25 F3 10 = .int .i64 (b - a:Nat) ∧ a25 F3 11 = .int .i64 p2 ∧ a25 F3 68 = .bool (wb && wp && decide (hint = .increasing)) ∧ H3 = [some (.row 1 (rwA d2 ++ rest))]) ?_ ?_
    ·have c4:=(b2z hint).2
     by_cases hi:hint = .increasing
     ·have c5:=c4.2 hi
      cases wb<;>cases wp<;>refine b4p (by simp +decide only [go_sem,g8,g9,g12,c5];rfl) ⟨?_,?_,?_,?_,?_,?_,?_,?_,?_,rfl⟩<;>first|assumption|(simp only [hi];rfl)
     ·have c5:¬ b1f hint = 1:=fun h=>hi (c4.1 h)
      cases wb<;>cases wp<;>refine b4p (by simp +decide only [go_sem,g8,g9,g12,c5];rfl) ⟨?_,?_,?_,?_,?_,?_,?_,?_,?_,rfl⟩<;>first|assumption|(simp only [hi];rfl)
    clear g0 g1 g2 g3 g8 g9 g10 g11 g12
    rintro F3 H3 ⟨g0,g1,g2,g3,g8,g9,g10,g11,g68,rfl⟩
    -- partialInsertionSort
    trace_state
    (repeat first|simp only [ww]|(apply xa;simp +decide only [go_sem];rfl;kernel_rfl))
    trace_state
    refine b1x (Q:=NrQ (fun F4 H4=>∃ d3:Array Int,d3.size = n ∧ Below ltInt a b d3 ∧ a25 F4 0 = .slice 0 0 n c ∧ a25 F4 1 = .int .i64 a ∧ a25 F4 2 = .int .i64 b ∧ a25 F4 3 = .int .i64 l1 ∧ a25 F4 8 = .bool wb ∧ a25 F4 9 = .bool wp ∧ a25 F4 10 = .int .i64 (b - a:Nat) ∧ a25 F4 11 = .int .i64 p2 ∧ H4 = [some (.row 1 (rwA d3 ++ rest))] ∧ e3v d3 a b l1 wb wp p2 = FIN) [some (.row 1 (rwA FIN ++ rest))]) ?_ ?_
    ·generalize (wb && wp && decide (hint = Hint.increasing)) = t at hR2 g68
     cases t with
     | false=>
      rw [if_neg (by simp),if_neg (by simp)] at hR2
      (repeat first|simp only [ww]|(apply xa;simp +decide only [go_sem,g68];rfl;kernel_rfl))
      exact e91 ⟨d2,hd2,hB2,g0,g1,g2,g3,g8,g9,g10,g11,rfl,hR2⟩
     | true=>
      rw [if_pos rfl] at hR2
      have p1:=(partialInsertionSort_holds swo_ltInt d2 a b (by omega) (by omega) hB2).1
      have k2:=b3k (d:=false) (by kernel_rfl) (by kernel_rfl) fe (a07 (d:=(partialInsertionSort ltInt d2 a b).1) hrest) rfl rfl rfl (d67 n c d2 rest a b hrest hd2.symm (by omega) hb (by omega))
      generalize partialInsertionSort ltInt d2 a b = pr at *
      obtain ⟨d3,u⟩:=pr
      cases u with
      | true=>
       rw [if_pos rfl] at hR2
       (repeat first|simp only [ww]|(apply xa;simp +decide only [go_sem,g68,k2,g0,g1,g2];rfl;kernel_rfl))
       exact f1n (by rw [← hR2])
      | false=>
       rw [if_neg (by simp)] at hR2
       (repeat first|simp only [ww]|(apply xa;simp +decide only [go_sem,g68,k2,g0,g1,g2];rfl;kernel_rfl))
       refine e91 ⟨d3,p1.1.trans hd2,hB2.perm (by omega) p1,?_,?_,?_,?_,?_,?_,?_,?_,rfl,hR2⟩<;>assumption
    clear g0 g1 g2 g3 g8 g9 g10 g11 g68 hR2 fe
    rintro e1 F4 H4 (⟨rfl,d3,hd3,hB3,g0,g1,g2,g3,g8,g9,g10,g11,rfl,hR3⟩|⟨rfl,rfl⟩)
    rotate_left
    ·have f2:=a07 (d:=FIN) hrest
     (repeat first|simp only [ww]|(apply xa;simp +decide only [go_sem];rfl;kernel_rfl))
     (apply fqb;simp +decide only [go_sem,h0,a01 _ f2]<;>rfl)
    have fe:=a07 (d:=d3) hrest
    unfold e3v at hR3
    by_cases hq:a > 0 ∧ ltInt d3[a - 1]! d3[p2]! = false
    · -- partitionEqual
     rw [if_pos (by simp [hq.1,hq.2])] at hR3
     obtain ⟨r1,r2,r3,r4,-⟩:=round_eq (mid:=(partitionEqual ltInt d3 a b p2).1) (d4:=(partitionEqual ltInt d3 a b p2).2) swo_ltInt (partitionEqual_holds ltInt) hq.1 hp1 hp2 (by omega) hB3 hq.2 rfl
     have k2:=b3k (d:=false) (by kernel_rfl) (by kernel_rfl) fe (a07 (d:=(partitionEqual ltInt d3 a b p2).2) hrest) rfl rfl rfl (c6a n c d3 rest a b p2 hrest hd3.symm (by omega) hb (by omega) (by omega))
     generalize partitionEqual ltInt d3 a b p2 = pr at *
     obtain ⟨mid,d4⟩:=pr
     simp only at hR3 r1 r2 r3 r4 k2
     rw [if_pos ⟨r1,r2⟩] at hR3
     have c6:(0:Int) < a:=by omega
     have w2:IntKind.i64.wrap ((a:Int) - 1) = ((a - 1:Nat):Int):=by rw [w64 (by omega) (by omega)];omega
     have i1:a - 1 < n:=by omega
     have i2:p2 < n:=by omega
     have hl:n ≤ (rwA d3 ++ rest).length:=by rw [List.length_append,a1i];omega
     have s1:=a0f (d:=d3) (rest:=rest) (i:=a - 1) (by omega)
     have s2:=a0f (d:=d3) (rest:=rest) (i:=p2) (by omega)
     have hlt:=hq.2
     (repeat first|simp only [ww]|(apply xa;simp +decide only [go_sem,g0,g1,g2,g11,c6,w2,i1,i2,hl,s1,s2,hls,hlt,k2];rfl;kernel_rfl))
     refine a12 (b - mid) (by omega) ⟨_,_,?_,mid,b,l1,wb,wp,d4,rfl,by omega,r3.trans hd3,r2,hb,hl1,r4,rfl,rfl,hR3⟩
     have f2:=a07 (d:=d4) hrest
     (simp +decide only [go_sem,a02,a00,a03 f2,a01 _ f2,g0,g1,g2,g3,g8,g9]<;>rfl)<;>rfl
    ·rw [if_neg (fun h=>hq (by simp only [Bool.and_eq_true,decide_eq_true_eq,Bool.not_eq_true'] at h;exact h))] at hR3
     have h4:((0:Int) < a ∧ ltInt d3[a - 1]! d3[p2]! = true ∧ (rwA d3 ++ rest)[a - 1]? = some [AV.int .i64 d3[a - 1]!] ∧ IntKind.i64.wrap ((a:Int) - 1) = ((a - 1:Nat):Int) ∧ a - 1 < n) ∨ ((¬ (0:Int) < a) ∧ (0:Nat) < 1 ∧ (0:Nat) < 1 ∧ (0:Nat) < 1 ∧ (0:Nat) < 1):=by
      by_cases h:a > 0
      ·refine .inl ⟨by omega,?_,a0f (by omega),by rw [w64 (by omega) (by omega)];omega,by omega⟩
       cases hh:ltInt d3[a - 1]! d3[p2]!
       ·exact absurd ⟨h,hh⟩ hq
       ·rfl
      ·exact .inr ⟨by omega,by decide,by decide,by decide,by decide⟩
     obtain ⟨r1,r2,r3,r4,r5,r6,r7⟩:=round_part (mid:=(partition ltInt d3 a b p2).1) (ap:=(partition ltInt d3 a b p2).2.1) (d4:=(partition ltInt d3 a b p2).2.2) swo_ltInt (partition_holds ltInt) hp1 hp2 (by omega) hB3 rfl
     have k2:=b3k (d:=false) (by kernel_rfl) (by kernel_rfl) fe (a07 (d:=(partition ltInt d3 a b p2).2.2) hrest) rfl rfl rfl (b62 n c d3 rest a b p2 hrest hd3.symm (by omega) hb (by omega) (by omega))
     generalize partition ltInt d3 a b p2 = pr at *
     obtain ⟨mid,ap,d4⟩:=pr
     simp only at hR3 r1 r2 r3 r4 r5 r6 r7 k2
     rw [if_pos ⟨r1,r2⟩] at hR3
     have i2:p2 < n:=by omega
     have hl:n ≤ (rwA d3 ++ rest).length:=by rw [List.length_append,a1i];omega
     have s2:=a0f (d:=d3) (rest:=rest) (i:=p2) (by omega)
     have w3:IntKind.i64.wrap ((mid:Int) - a) = ((mid - a:Nat):Int):=by rw [w64 (by omega) (by omega)];omega
     have w4:IntKind.i64.wrap ((b:Int) - mid) = ((b - mid:Nat):Int):=by rw [w64 (by omega) (by omega)];omega
     have w5:IntKind.i64.wrap (((b - a) / 8:Nat):Int) = (((b - a) / 8:Nat):Int):=w64 (by omega) (by omega)
     have w6:=wI1 (n:=mid) (by omega)
     have hz4:=r3.trans hd3
     by_cases hm:mid - a < b - mid
     ·have c6:((mid - a:Nat):Int) < ((b - mid:Nat):Int):=by omega
      rw [if_pos hm] at hR3
      obtain ⟨q1,q2⟩:=pdq_sorts ltInt swo_ltInt d4 a mid l1 true true r1 (by omega) r4
      have k3:=IHc false d4 a mid l1 (by omega) hz4.symm r1 (by omega) hl1 r4
      have r8:=(r6 _ q1 q2).1
      have hz5:=q1.1.trans hz4
      generalize pdq ltInt d4 a mid l1 true true = d5 at *
      have f2:=a07 (d:=d5) hrest
      rcases h4 with ⟨d1,d2,d3,d4,d5⟩|⟨d1,d2,d3,d4,d5⟩
      all_goals
       by_cases h8:mid - a ≥ (b - a) / 8
       ·have c7:(((b - a) / 8:Nat):Int) ≤ ((mid - a:Nat):Int):=by omega
        rw [decide_eq_true h8] at hR3
        (repeat first|simp only [ww]|(apply xa;simp +decide only [go_sem,g0,g1,g2,g3,g10,g11,d1,d2,d3,d4,d5,i2,hl,s2,hls,k2,w3,w4,w5,w6,c6,c7,k3];rfl;kernel_rfl))
        refine a12 (b - (mid + 1)) (by omega) ⟨_,_,?_,mid + 1,b,l1,true,ap,_,rfl,by omega,hz5,by omega,hb,hl1,r8,rfl,rfl,hR3⟩
        (simp +decide only [go_sem,a02,a00,a03 f2,a01 _ f2,g0,g1,g2,g3,g8,g9]<;>rfl)<;>rfl
       ·have c7:¬ (((b - a) / 8:Nat):Int) ≤ ((mid - a:Nat):Int):=by omega
        rw [decide_eq_false h8] at hR3
        (repeat first|simp only [ww]|(apply xa;simp +decide only [go_sem,g0,g1,g2,g3,g10,g11,d1,d2,d3,d4,d5,i2,hl,s2,hls,k2,w3,w4,w5,w6,c6,c7,k3];rfl;kernel_rfl))
        refine a12 (b - (mid + 1)) (by omega) ⟨_,_,?_,mid + 1,b,l1,false,ap,_,rfl,by omega,hz5,by omega,hb,hl1,r8,rfl,rfl,hR3⟩
        (simp +decide only [go_sem,a02,a00,a03 f2,a01 _ f2,g0,g1,g2,g3,g8,g9]<;>rfl)<;>rfl
     ·have c6:¬ ((mid - a:Nat):Int) < ((b - mid:Nat):Int):=by omega
      rw [if_neg hm] at hR3
      obtain ⟨q1,q2⟩:=pdq_sorts ltInt swo_ltInt d4 (mid + 1) b l1 true true (by omega) (by omega) r5
      have k3:=IHc false d4 (mid + 1) b l1 (by omega) hz4.symm (by omega) (by omega) hl1 r5
      have r8:=(r7 _ q1 q2).1
      have hz5:=q1.1.trans hz4
      generalize pdq ltInt d4 (mid + 1) b l1 true true = d5 at *
      have f2:=a07 (d:=d5) hrest
      rcases h4 with ⟨d1,d2,d3,d4,d5⟩|⟨d1,d2,d3,d4,d5⟩
      all_goals
       by_cases h8:b - mid ≥ (b - a) / 8
       ·have c7:(((b - a) / 8:Nat):Int) ≤ ((b - mid:Nat):Int):=by omega
        rw [decide_eq_true h8] at hR3
        (repeat first|simp only [ww]|(apply xa;simp +decide only [go_sem,g0,g1,g2,g3,g10,g11,d1,d2,d3,d4,d5,i2,hl,s2,hls,k2,w3,w4,w5,w6,c6,c7,k3];rfl;kernel_rfl))
        refine a12 (mid - a) (by omega) ⟨_,_,?_,a,mid,l1,true,ap,_,rfl,by omega,hz5,by omega,by omega,hl1,r8,rfl,rfl,hR3⟩
        (simp +decide only [go_sem,a02,a00,a03 f2,a01 _ f2,g0,g1,g2,g3,g8,g9]<;>rfl)<;>rfl
       ·have c7:¬ (((b - a) / 8:Nat):Int) ≤ ((b - mid:Nat):Int):=by omega
        rw [decide_eq_false h8] at hR3
        (repeat first|simp only [ww]|(apply xa;simp +decide only [go_sem,g0,g1,g2,g3,g10,g11,d1,d2,d3,d4,d5,i2,hl,s2,hls,k2,w3,w4,w5,w6,c6,c7,k3];rfl;kernel_rfl))
        refine a12 (mid - a) (by omega) ⟨_,_,?_,a,mid,l1,false,ap,_,rfl,by omega,hz5,by omega,by omega,hl1,r8,rfl,rfl,hR3⟩
        (simp +decide only [go_sem,a02,a00,a03 f2,a01 _ f2,g0,g1,g2,g3,g8,g9]<;>rfl)<;>rfl
def a1l (x:Int):List AV:=[.int .i64 x]
def a8r (t x:Int):Bool:=decide (x < 0 ∨ t ≤ x)
theorem d7w (cf cc:Option (Option Nat)) (FR CR:List (List AV)) (t x:Int):sem L.env Mf 40 [.int .i64 x,.ptr 0 0 0] [some (.row 3 [[sl cf FR,sl cc CR,.int .i64 t]])] = some (.bool (a8r t x),[some (.row 3 [[sl cf FR,sl cc CR,.int .i64 t]])]):=by
 unfold a8r
 by_cases h1:x < 0
 ·rw [decide_eq_true (.inl h1)]
  (refine sv Tryz.f40 ?_;simp only [Tryz.f40,gS])
  (repeat first|simp only [ww]|(apply xa;simp +decide only [go_sem,h1];rfl;kernel_rfl))
  (apply fqb;simp +decide only [go_sem]<;>rfl)
 ·by_cases h2:t ≤ x
  ·rw [decide_eq_true (.inr h2)]
   (refine sv Tryz.f40 ?_;simp only [Tryz.f40,gS])
   (repeat first|simp only [ww]|(apply xa;simp +decide only [go_sem,h1,h2];rfl;kernel_rfl))
   (apply fqb;simp +decide only [go_sem]<;>rfl)
  ·rw [decide_eq_false (by omega)]
   (refine sv Tryz.f40 ?_;simp only [Tryz.f40,gS])
   (repeat first|simp only [ww]|(apply xa;simp +decide only [go_sem,h1,h2];rfl;kernel_rfl))
   (apply fqb;simp +decide only [go_sem]<;>rfl)
theorem b8r {d:Bool} (Y:Option AObj) (cf cc:Option (Option Nat)) (FR CR:List (List AV)) (t x:Int) :
 a0e L.env d (sem L.env Mf) (.func (.func 40) [] [.ptr 1 0 0]) [.int .i64 x] [Y,some (.row 3 [[sl cf FR,sl cc CR,.int .i64 t]])] = some (.bool (a8r t x),[Y,some (.row 3 [[sl cf FR,sl cc CR,.int .i64 t]])],[1]):=
 a1y (E:=L.env) (fs:=[]) (cs:=[.ptr 1 0 0]) (ar:=[.int .i64 x]) (H:=[Y,some (.row 3 [[sl cf FR,sl cc CR,.int .i64 t]])]) (b:=1) (o:=.row 3 [[sl cf FR,sl cc CR,.int .i64 t]]) (o':=.row 3 [[sl cf FR,sl cc CR,.int .i64 t]]) (by kernel_rfl) (by kernel_rfl) rfl rfl (by simp +decide only [go_sem]<;>rfl) (fun π=>by simp +decide only [go_sem,a0m]<;>rfl) rfl rfl (d7w cf cc FR CR t x) (fun π=>by simp +decide only [go_sem,a0m]<;>rfl) rfl
theorem b8v {d:Bool} {g:FuncId} (hx:L.env.ext g = false) (hf:(L.env.fn g).isSome = true) (k:Nat) (cf cc:Option (Option Nat)) (FR CR:List (List AV)) (t:Int) (R R':List (List AV)) (c:Option Nat) (v:AV) (hRf:FlatR R) (hRf':FlatR R')
 (hv:∀ m,ren (a18 [0,1] m) v = v) (h:sem L.env Mf g [.slice 0 0 k c,.func (.func 40) [] [.ptr 1 0 0]] [some (.row 1 R),some (.row 3 [[sl cf FR,sl cc CR,.int .i64 t]])] = some (v,[some (.row 1 R'),some (.row 3 [[sl cf FR,sl cc CR,.int .i64 t]])])) :
 a0e L.env d (sem L.env Mf) (.func (.func g) [] []) [.slice 0 0 k c,.func (.func 40) [] [.ptr 1 0 0]] [some (.row 1 R),some (.row 3 [[sl cf FR,sl cc CR,.int .i64 t]])] = some (v,[some (.row 1 R'),some (.row 3 [[sl cf FR,sl cc CR,.int .i64 t]])],[0,1]):=by
 have hRr:=fun π=>a01 π hRf
 have hRr':=fun π=>a01 π hRf'
 have hR0:=a03 hRf
 have hc:=a0y (sem L.env Mf g) [.slice 0 0 k c,.func (.func 40) [] [.ptr 1 0 0]] [some (.row 1 R),some (.row 3 [[sl cf FR,sl cc CR,.int .i64 t]])] (σ:=[0,1]) (by simp +decide only [go_sem,hR0]) rfl rfl (args':=[.slice 0 0 k c,.func (.func 40) [] [.ptr 1 0 0]]) rfl (H0:=[some (.row 1 R),some (.row 3 [[sl cf FR,sl cc CR,.int .i64 t]])]) (by simp only [a1n,List.map_cons,List.map_nil,a04,List.getElem?_cons_succ,List.getElem?_cons_zero,Option.join_some,Option.map_some,a0m,hRr];simp +decide only [go_sem]<;>rfl) h
 refine a23 hx hf rfl (hc.trans ?_) rfl
 simp +decide only [go_sem,hRr,hRr',hv]<;>rfl
theorem c7c (cf cc:Option (Option Nat)) (FR CR:List (List AV)) (t:Int) (R:List (List AV)) (is:List Int) (c:Option Nat) (hRf:FlatR R)
 (hil:is.length ≤ 1000) (hRl:is.length ≤ R.length) (hR:∀ (j:Nat) (i:Int),is[j]? = some i → R[j]? = some [AV.int .i64 i]) :
 ∃ r:AV × a06,((r = (.int .i64 (-1),[some (.row 1 R),some (.row 3 [[sl cf FR,sl cc CR,.int .i64 t]])]) ∧ ∀ i ∈ is,a8r t i = false) ∨ ∃ (j:Nat) (i:Int),r = (.int .i64 (j:Nat),[some (.row 1 R),some (.row 3 [[sl cf FR,sl cc CR,.int .i64 t]])]) ∧ is[j]? = some i ∧ a8r t i = true ∧ ∀ x ∈ is.take j,a8r t x = false) ∧
  sem L.env Mf 55 [.slice 0 0 is.length c,.func (.func 40) [] [.ptr 1 0 0]] [some (.row 1 R),some (.row 3 [[sl cf FR,sl cc CR,.int .i64 t]])] = some r:=by
 have hRr:=fun π=>a01 π hRf
 have hR0:=a03 hRf
 (refine svE Tryz.f55 ?_;simp only [Tryz.f55,gS])
 (repeat first|simp only [ww]|(apply xa;simp +decide only [go_sem];rfl;kernel_rfl))
 refine a0l (σ:=Nat) kp55_0 (fun j=>[(0,.slice 0 0 is.length c),(1,.func (.func 40) [] [.ptr 1 0 0]),(7,.int .i64 is.length),(8,.int .i64 j)]) (fun j=>[some (.row 1 R),some (.row 3 [[sl cf FR,sl cc CR,.int .i64 t]])]) (fun j=>is.length - j) (fun j=>j ≤ is.length ∧ ∀ x ∈ is.take j,a8r t x = false) 0 ?_ ⟨Nat.zero_le _,fun x h=>by simp at h⟩ ?_
 ·(simp +decide only [go_sem,a02,a00,hR0,hRr]<;>rfl)<;>rfl
 ·rintro j ⟨hj,hno⟩
  by_cases hlt:j < is.length
  ·obtain ⟨i,hi⟩:∃ i,is[j]? = some i:=⟨_,z9e hlt⟩
   have hg:=hR j i hi
   have hdel:=fun Y=>b8r (d:=false) Y cf cc FR CR t i
   have d1:(j:Int) < is.length:=by omega
   have hwj:=wI1 (n:=j) (by omega)
   by_cases hd:a8r t i = true
   ·(repeat first|simp only [ww]|(apply xa;simp +decide only [go_sem,d1,hlt,hRl,hg,hdel,hd];rfl;kernel_rfl))
    (apply c3w;(·simp +decide only [go_sem,hRr]<;>rfl))
    exact .inr ⟨j,i,rfl,hi,hd,hno⟩
   ·have hd:a8r t i = false:=by simpa using hd
    (repeat first|simp only [ww]|(apply xa;simp +decide only [go_sem,d1,hlt,hRl,hg,hdel,hd,hwj];rfl;kernel_rfl))
    refine a1m (j + 1) ?_ (by omega) ⟨by omega,?_⟩
    ·(simp +decide only [go_sem,a02,a00,hR0,hRr]<;>rfl)<;>rfl
    ·intro x hx
     rw [List.take_add_one,hi] at hx
     rcases List.mem_append.1 hx with h|h
     ·exact hno x h
     ·simp only [Option.toList,List.mem_singleton] at h;subst h;exact hd
  ·obtain rfl:j = is.length:=by omega
   have d1:¬ (is.length:Int) < is.length:=by omega
   (repeat first|simp only [ww]|(apply xa;simp +decide only [go_sem,d1];rfl;kernel_rfl))
   (apply c3w;(·simp +decide only [go_sem,hRr]<;>rfl))
   exact .inl ⟨rfl,by rw [List.take_length] at hno;exact hno⟩
theorem OneR.intz (l:List Int):OneR (l.map a1l):=fun r hr=>by obtain ⟨x,_,rfl⟩:=List.mem_map.1 hr;exact ⟨x,rfl⟩
theorem b58 (cf cc:Option (Option Nat)) (FR CR:List (List AV)) (t:Int) (rest:List (List AV)) (is:List Int) (c:Option Nat) (hrest:OneR rest)
 (hil:is.length ≤ 1000) (hcc:∀ m,c = some m → is.length ≤ m) :
 ∃ r:AV × a06,(∃ rest',OneR rest' ∧ r = (.slice 0 0 (is.filter fun i=>!a8r t i).length c,[some (.row 1 ((is.filter fun i=>!a8r t i).map a1l ++ rest')),some (.row 3 [[sl cf FR,sl cc CR,.int .i64 t]])])) ∧
  sem L.env Mf 37 [.slice 0 0 is.length c,.func (.func 40) [] [.ptr 1 0 0]] [some (.row 1 (is.map a1l ++ rest)),some (.row 3 [[sl cf FR,sl cc CR,.int .i64 t]])] = some r:=by
 have hR1:OneR (is.map a1l ++ rest):=(OneR.intz is).app hrest
 have hRf:=hR1.flat
 have hR:∀ (j:Nat) (i:Int),is[j]? = some i → (is.map a1l ++ rest)[j]? = some [AV.int .i64 i]:=by
  intro j i h
  rw [List.getElem?_append_left (by simpa using (List.getElem?_eq_some_iff.1 h).1),List.getElem?_map,h];rfl
 have hRl:is.length ≤ (is.map a1l ++ rest).length:=by simp
 have hRt:(is.map a1l ++ rest).take is.length = is.map a1l:=by rw [List.take_append_of_le_length (by simp),List.take_of_length_le (by simp)]
 have hnot:(∀ i ∈ is,a8r t i = false) → is.filter (fun i=>!a8r t i) = is:=fun h=>List.filter_eq_self.2 fun i hi=>by simpa using h i hi
 have hkeep:∃ rest',is.map a1l ++ rest = is.map a1l ++ rest' ∧ OneR rest':=⟨rest,rfl,hrest⟩
 generalize hRR:is.map a1l ++ rest = R at hR1 hRf hR hRl hRt hkeep ⊢
 have hRr:=fun π=>a01 π hRf
 have hR0:=a03 hRf
 obtain ⟨r,hr,hidx⟩:=c7c cf cc FR CR t R is c hRf hil hRl hR
 rcases hr with ⟨rfl,hno⟩|⟨j0,i0,rfl,hj0,hi0,hno⟩
 ·have hcall:=b8v (d:=false) (g:=55) (by kernel_rfl) (by kernel_rfl) is.length cf cc FR CR t R R c _ hRf hRf (fun _=>rfl) hidx
  rw [hnot hno]
  (refine svE Tryz.f37 ?_;simp only [Tryz.f37,gS])
  (repeat first|simp only [ww]|(apply xa;simp +decide only [go_sem,hcall];rfl;kernel_rfl))
  (apply c3w;(·simp +decide only [go_sem,hRr]<;>rfl))
  obtain ⟨rest',h1,h2⟩:=hkeep
  exact ⟨rest',h2,by rw [← h1]⟩
 ·have hcall:=b8v (d:=false) (g:=55) (by kernel_rfl) (by kernel_rfl) is.length cf cc FR CR t R R c _ hRf hRf (fun _=>rfl) hidx
  have hj0l:=(List.getElem?_eq_some_iff.1 hj0).1
  have hj1:¬ (j0:Int) = -1:=by omega
  have hw1:=wI1 (n:=j0) (by omega)
  (refine svE Tryz.f37 ?_;simp only [Tryz.f37,gS])
  (repeat first|simp only [ww]|(apply xa;simp +decide only [go_sem,hcall,hj1,hw1];rfl;kernel_rfl))
  have hcl:e2k L.env 35 = some (1,[.int .i64 0]):=by kernel_rfl
  have hfull:∀ (Q:Int → Bool) (l:List Int),(∀ x ∈ l,Q x = true) → l.filter Q = l:=fun Q l h=>List.filter_eq_self.2 h
  obtain ⟨P,hP⟩:∃ P:Int → Bool,P = fun i=>!a8r t i:=⟨_,rfl⟩
  rw [← hP]
  have hPt:∀ x,a8r t x = false → P x = true:=fun x h=>by rw [hP];simpa using h
  have hPf:∀ x,a8r t x = true → P x = false:=fun x h=>by rw [hP];simpa using h
  have hsn:∀ (j:Nat) (v:Int),is[j]? = some v → (is.take (j + 1)).filter P = (is.take j).filter P ++ (if P v then [v] else []):=by
   intro j v h
   rw [List.take_add_one,h,List.filter_append]
   cases hv:P v<;>simp [hv]
  refine a24 kp37_0 (fun N F H=>∃ (i j:Nat) (R':List (List AV)),N = is.length - j ∧ F = [(0,.slice 0 0 is.length c),(1,.func (.func 40) [] [.ptr 1 0 0]),(5,.int .i64 i),(6,.int .i64 j)] ∧ H = [some (.row 1 R'),some (.row 3 [[sl cf FR,sl cc CR,.int .i64 t]])] ∧ i < j ∧ j ≤ is.length ∧ R'.length = R.length ∧ OneR R' ∧
   R'.take i = ((is.take j).filter P).map a1l ∧ ((is.take j).filter P).length = i ∧ ∀ x,j ≤ x → R'[x]? = R[x]?) (is.length - (j0 + 1)) ?_ ?_
  ·have hf0:(is.take (j0 + 1)).filter P = is.take j0:=by
    rw [hsn j0 i0 hj0,hfull P _ (fun x hx=>hPt x (hno x hx)),hPf i0 hi0];simp
   refine ⟨[(0,.slice 0 0 is.length c),(1,.func (.func 40) [] [.ptr 1 0 0]),(5,.int .i64 j0),(6,.int .i64 (j0 + 1:Nat))],[some (.row 1 R),some (.row 3 [[sl cf FR,sl cc CR,.int .i64 t]])],by (simp +decide only [go_sem,a02,a00,hR0,hRr]<;>rfl)<;>rfl,j0,j0 + 1,R,rfl,rfl,rfl,by omega,by omega,rfl,hR1,?_,?_,fun _ _=>rfl⟩
   ·rw [hf0,List.map_take,← hRt,List.take_take,Nat.min_eq_left (by omega)]
   ·rw [hf0,List.length_take];omega
  ·rintro N F1 H1 ⟨i,j,R',rfl,rfl,rfl,hij,hj,hRl',hR1',hRt',hil',hRx⟩
   have hRf':=hR1'.flat
   have hRr':=fun π=>a01 π hRf'
   have hR0':=a03 hRf'
   by_cases hlt:j < is.length
   ·obtain ⟨v,hv⟩:∃ v,is[j]? = some v:=⟨_,z9e hlt⟩
    have hg:R'[j]? = some [AV.int .i64 v]:=by rw [hRx j (Nat.le_refl _)];exact hR j v hv
    have hdel:=fun Y=>b8r (d:=false) Y cf cc FR CR t v
    have d1:(j:Int) < is.length:=by omega
    have hwj:=wI1 (n:=j) (by omega)
    have hlR:is.length ≤ R'.length:=by omega
    by_cases hd:a8r t v = true
    ·(repeat first|simp only [ww]|(apply xa;simp +decide only [go_sem,d1,hlt,hlR,hg,hdel,hd,hwj];rfl;kernel_rfl))
     refine a12 (is.length - (j + 1)) (by omega) ⟨[(0,.slice 0 0 is.length c),(1,.func (.func 40) [] [.ptr 1 0 0]),(5,.int .i64 i),(6,.int .i64 (j + 1:Nat))],[some (.row 1 R'),some (.row 3 [[sl cf FR,sl cc CR,.int .i64 t]])],by (simp +decide only [go_sem,a02,a00,hR0',hRr']<;>rfl)<;>rfl,i,j + 1,R',rfl,rfl,rfl,by omega,by omega,hRl',hR1',?_,?_,fun x hx=>hRx x (by omega)⟩
     ·rw [hsn j v hv,hPf v hd,hRt'];simp
     ·rw [hsn j v hv,hPf v hd];simpa using hil'
    ·have hd:a8r t v = false:=by simpa using hd
     have hwi:=wI1 (n:=i) (by omega)
     have hit:i < is.length:=by omega
     obtain ⟨y,hgi⟩:=hR1'.get (i:=i) (by omega)
     have hR2:=hR1'.set i v
     have hRr2:=fun π=>a01 π hR2.flat
     have hR02:=a03 hR2.flat
     (repeat first|simp only [ww]|(apply xa;simp +decide only [go_sem,d1,hlt,hlR,hg,hdel,hd,hwj,hwi,hit,hgi];rfl;kernel_rfl))
     refine a12 (is.length - (j + 1)) (by omega) ⟨[(0,.slice 0 0 is.length c),(1,.func (.func 40) [] [.ptr 1 0 0]),(5,.int .i64 (i + 1:Nat)),(6,.int .i64 (j + 1:Nat))],[some (.row 1 (R'.set i [.int .i64 v])),some (.row 3 [[sl cf FR,sl cc CR,.int .i64 t]])],by (simp +decide only [go_sem,a02,a00,hR02,hRr2]<;>rfl)<;>rfl,i + 1,j + 1,_,rfl,rfl,rfl,by omega,by omega,by rw [List.length_set];exact hRl',hR2,?_,?_,fun x hx=>by rw [List.getElem?_set_ne (by omega)];exact hRx x (by omega)⟩
     ·rw [hsn j v hv,hPt v hd,List.take_add_one,List.getElem?_set_self (by omega),List.take_set_of_le (Nat.le_refl i),hRt'];simp;rfl
     ·rw [hsn j v hv,hPt v hd];simpa using hil'
   ·obtain rfl:j = is.length:=by omega
    have d1:¬ (is.length:Int) < is.length:=by omega
    have d2:¬ is.length - i = 0:=by omega
    have d3:i + (is.length - i) ≤ R'.length:=by omega
    have d4:i ≤ is.length:=by omega
    have hcap:i ≤ a14 is.length c:=by
     cases c with
     | none=>exact d4
     | some m=>have:=hcc m rfl;show i ≤ m;omega
    rw [List.take_length] at hRt' hil'
    have hrest2:OneR (List.replicate (is.length - i) [AV.int .i64 0] ++ R'.drop (i + (is.length - i))):=(OneR.rep _ _).app (hR1'.drop _)
    (repeat first|simp only [ww]|(apply xa;simp +decide only [go_sem,d1,d2,d3,d4,hcl,hcap,hRt',List.append_assoc];rfl;kernel_rfl))
    have hfin:=a01 (a19 2) ((OneR.intz (is.filter P)).app hrest2).flat
    (apply c3w;(·simp +decide only [go_sem,hfin]<;>rfl))
    exact ⟨_,hrest2,by rw [hil']⟩
theorem d6q:(List.range 129).map (fun (n:Nat)=>a91 L.env c1 9 57 [u64 (BitVec.ofInt 64 n)] []) = (List.range 129).map fun (n:Nat)=>some (.int .i64 (bitsLen n:Nat),[]):=by kernel_rfl
theorem d45 (n:Nat) (h:n < 129):sem L.env Mf 57 [u64 (BitVec.ofInt 64 n)] [] = some (.int .i64 (bitsLen n:Nat),[]):=by
 have k:=congrArg (fun l=>l[n]?) d6q
 simp only [List.getElem?_map,List.getElem?_range h,Option.map_some,Option.some.injEq] at k
 exact c12 e2p (by decide) 9 k
theorem e7p (n:Nat) (h:n < 129):bitsLen n ≤ 1000:=by
 have hb:(List.range 129).all (fun n=>decide (bitsLen n ≤ 1000)) = true:=by kernel_rfl
 exact of_decide_eq_true (List.all_eq_true.1 hb n (List.mem_range.2 h))
theorem c5d (n:Nat) (c:Option Nat) (d:Array Int) (rest:List (List AV)) (hrest:FlatR rest) (hn:n = d.size) (hn1:n ≤ 128) :
 sem L.env Mf 41 [.slice 0 0 n c] [some (.row 1 (rwA d ++ rest))] = some (.tuple [],[some (.row 1 (rwA (Go.Sort.sort ltInt d) ++ rest))]):=by
 have h0:a45 [] = .tuple []:=rfl
 have f:=a07 (d:=d) hrest
 have hT:Go.Sort.sort ltInt d = pdq ltInt d 0 n (bitsLen n) true true:=by rw [hn];rfl
 have hlen:=fun H=>a05 (E:=L.env) (draw:=false) (call:=sem L.env Mf) (g:=57) (fs:=[]) (cs:=[]) (ar:=[u64 (BitVec.ofInt 64 n)]) (H:=H) (by kernel_rfl) (by kernel_rfl) rfl rfl (d45 n (by omega)) rfl
 have k:=b3k (d:=false) (by kernel_rfl) (by kernel_rfl) f (a07 (d:=pdq ltInt d 0 n (bitsLen n) true true) hrest) rfl rfl rfl (e10 n c rest hrest hn1 (n + 1) d 0 n (bitsLen n) (by omega) hn (Nat.zero_le _) (Nat.le_refl _) (e7p n (by omega)) (.inl rfl))
 simp only [Int.natCast_zero] at k
 rw [hT]
 have f2:=a07 (d:=pdq ltInt d 0 n (bitsLen n) true true) hrest
 (refine sv Tryz.f41 ?_;simp only [Tryz.f41,gS])
 (repeat first|simp only [ww]|(apply xa;simp +decide only [go_sem,hlen,k];rfl;kernel_rfl))
 (apply fqb;simp +decide only [go_sem,h0,a01 _ f2]<;>rfl)
theorem e6k (c:Option (Option Nat)):sem L.env Mf 90 [sl c [],.int .i64 0,.int .i64 0] [] = some (.tuple [],[]):=by
 have h0:a45 [] = .tuple []:=rfl
 (refine sv Tryz.f90 ?_;simp only [Tryz.f90,gS])
 (repeat first|simp only [ww]|(apply xa;simp +decide only [go_sem];rfl;kernel_rfl))
 refine a24 kp90_0 (fun N F H=>F = [(0,sl c []),(1,.int .i64 0),(2,.int .i64 0),(6,.int .i64 1)] ∧ H = []) 0 ?_ ?_
 ·exact ⟨_,_,by (simp +decide only [go_sem,a02,a00]<;>rfl)<;>rfl,rfl,rfl⟩
 ·rintro N F H ⟨rfl,rfl⟩
  (repeat first|simp only [ww]|(apply xa;simp +decide only [go_sem];rfl;kernel_rfl))
  (apply fqb;simp +decide only [go_sem,h0]<;>rfl)
theorem e65 (c:Option (Option Nat)):sem L.env Mf 56 [sl c [],.int .i64 0,.int .i64 0,.int .i64 0] [] = some (.tuple [],[]):=by
 have h0:a45 [] = .tuple []:=rfl
 have k:=a05 (E:=L.env) (draw:=false) (call:=sem L.env Mf) (g:=90) (fs:=[]) (cs:=[]) (ar:=[sl c [],.int .i64 0,.int .i64 0]) (H:=[]) (by kernel_rfl) (by kernel_rfl) rfl (by simp +decide only [go_sem]<;>rfl) (e6k c) rfl
 (refine sv Tryz.f56 ?_;simp only [Tryz.f56,gS])
 (repeat first|simp only [ww]|(apply xa;simp +decide only [go_sem];rfl;kernel_rfl))
 refine a24 kp56_0 (fun N F H=>F = [(0,sl c []),(1,.int .i64 0),(2,.int .i64 0),(3,.int .i64 0),(8,.bool true),(9,.bool true)] ∧ H = []) 0 ?_ ?_
 ·exact ⟨_,_,by (simp +decide only [go_sem,a02,a00]<;>rfl)<;>rfl,rfl,rfl⟩
 ·rintro N F H ⟨rfl,rfl⟩
  (repeat first|simp only [ww]|(apply xa;simp +decide only [go_sem,k];rfl;kernel_rfl))
  (apply fqb;simp +decide only [go_sem,h0]<;>rfl)
theorem e0j (c:Option (Option Nat)):sem L.env Mf 41 [sl c []] [] = some (.tuple [],[]):=by
 have h0:a45 [] = .tuple []:=rfl
 have hb:bitsLen 0 = 0:=rfl
 have hlen:=a05 (E:=L.env) (draw:=false) (call:=sem L.env Mf) (g:=57) (fs:=[]) (cs:=[]) (ar:=[u64 (BitVec.ofInt 64 (0:Nat))]) (H:=[]) (by kernel_rfl) (by kernel_rfl) rfl rfl (d45 0 (by omega)) rfl
 rw [hb] at hlen
 simp only [Int.natCast_zero] at hlen
 have k:=a05 (E:=L.env) (draw:=false) (call:=sem L.env Mf) (g:=56) (fs:=[]) (cs:=[]) (ar:=[sl c [],.int .i64 0,.int .i64 0,.int .i64 0]) (H:=[]) (by kernel_rfl) (by kernel_rfl) rfl (by simp +decide only [go_sem]<;>rfl) (e65 c) rfl
 have e0:((0:Nat):Int) = 0:=rfl
 (refine sv Tryz.f41 ?_;simp only [Tryz.f41,gS])
 (repeat first|simp only [ww]|(apply xa;simp +decide only [go_sem,hlen,k,e0];rfl;kernel_rfl))
 (apply fqb;simp +decide only [go_sem,h0]<;>rfl)
theorem d7z (c:Option Nat):sem L.env Mf 39 [.islice [] c] [] = some (.slice 0 0 0 (some 0),[some (.row 1 [])]):=by
 (refine sv Tryz.f39 ?_;simp only [Tryz.f39,gS])
 (repeat first|simp only [ww]|(apply xa;simp +decide only [go_sem];rfl;kernel_rfl))
 (apply fqb;simp +decide only [go_sem]<;>rfl)
theorem d7x (c:Option Nat) (n:Nat) (R:List (List AV)) (hn:R.length = n) (h0:0 < n) (h1:n ≤ 1000) (hall:R.all (fun r=>decide (r.length = 1)) = true):sem L.env Mf 39 [.islice R c] [] = some (.slice 1 0 n none,[some (.row 1 []),some (.row 1 R)]):=by
 have hrm:a2k L.env 3 n = true:=a71 (by omega) (by decide +kernel)
 have d1:¬ n ≤ 0:=by omega
 (refine sv Tryz.f39 ?_;simp only [Tryz.f39,gS])
 (repeat first|simp only [ww]|(apply xa;simp +decide only [go_sem,hall,hn,d1,hrm,Nat.zero_add];rfl;kernel_rfl))
 (apply fqb;simp +decide only [go_sem]<;>rfl)
def a4x (t:Int) (F:List Int):List Int:=(F.filter fun x=>!a8r t x).mergeSort fun x y=>decide (x ≤ y)
theorem c16 (l:List Int):rwA l.toArray = l.map a1l:=rfl
theorem e0k (l:List Int):rwA (Go.Sort.sort ltInt l.toArray) = (l.mergeSort fun x y=>decide (x ≤ y)).map a1l:=by
 have h:=Go.Sort.sortInt l
 unfold rwA
 rw [h];rfl
theorem d1s (F:List Int):(F.map a1l).all (fun r=>decide (r.length = 1)) = true:=by
 rw [List.all_eq_true];intro r hr
 obtain ⟨x,_,rfl⟩:=List.mem_map.1 hr;rfl
theorem c2b (cf:Option Nat) (cc:Option (Option Nat)) (F:List Int) (CR:List (List AV)) (t:Int) (hF:0 < F.length) (hF1:F.length ≤ 128) :
 ∃ r:AV × a06,(∃ rest,OneR rest ∧ r = (.slice 2 0 (a4x t F).length none,[some (.row 3 [[.islice (F.map a1l) cf,sl cc CR,.int .i64 t]]),some (.row 1 []),some (.row 1 ((a4x t F).map a1l ++ rest))])) ∧ sem L.env Mf 24 [.agg [.islice (F.map a1l) cf,sl cc CR,.int .i64 t]] [] = some r:=by
 have hc:=d7x cf F.length (F.map a1l) (by simp) hF (by omega) (d1s F)
 have hFf:FlatR (F.map a1l):=(OneR.intz F).flat
 have hFr:=fun π=>a01 π hFf
 have hcl:a0e L.env false (sem L.env Mf) (.func (.func 39) [] []) [.islice (F.map a1l) cf] [some (.row 3 [[.islice (F.map a1l) cf,sl cc CR,.int .i64 t]])] = some (.slice 2 0 F.length none,[some (.row 3 [[.islice (F.map a1l) cf,sl cc CR,.int .i64 t]]),some (.row 1 []),some (.row 1 (F.map a1l))],[]):=by
  have hc:=a0y (sem L.env Mf 39) [.islice (F.map a1l) cf] [some (.row 3 [[.islice (F.map a1l) cf,sl cc CR,.int .i64 t]])] (σ:=[]) rfl rfl rfl (args':=[.islice (F.map a1l) cf]) rfl (H0:=[]) rfl hc
  refine a5s (by kernel_rfl) (by kernel_rfl) rfl (hc.trans ?_)
  simp +decide only [go_sem,hFr]<;>rfl
 obtain ⟨r,⟨rest',hr',rfl⟩,hd⟩:=b58 (some cf) cc (F.map a1l) CR t [] F none (fun r h=>by simp at h) (by omega) (fun m h=>by cases h)
 simp only [a2v,List.append_nil] at hd
 have hRf2:=((OneR.intz (F.filter fun i=>!a8r t i)).app hr').flat
 have hRr2:=fun π=>a01 π hRf2
 have hdl:a0e L.env false (sem L.env Mf) (.func (.func 37) [] []) [.slice 2 0 F.length none,.func (.func 40) [] [.ptr 0 0 0]] [some (.row 3 [[.islice (F.map a1l) cf,sl cc CR,.int .i64 t]]),some (.row 1 []),some (.row 1 (F.map a1l))] =
  some (.slice 2 0 (F.filter fun i=>!a8r t i).length none,[some (.row 3 [[.islice (F.map a1l) cf,sl cc CR,.int .i64 t]]),some (.row 1 []),some (.row 1 ((F.filter fun i=>!a8r t i).map a1l ++ rest'))],[2,0]):=by
  have h0:=a03 hFf
  have hc:=a0y (sem L.env Mf 37) [.slice 2 0 F.length none,.func (.func 40) [] [.ptr 0 0 0]] [some (.row 3 [[.islice (F.map a1l) cf,sl cc CR,.int .i64 t]]),some (.row 1 []),some (.row 1 (F.map a1l))] (σ:=[2,0]) (by simp +decide only [go_sem,h0]<;>rfl) rfl rfl (args':=[.slice 0 0 F.length none,.func (.func 40) [] [.ptr 1 0 0]]) rfl
   (H0:=[some (.row 1 (F.map a1l)),some (.row 3 [[.islice (F.map a1l) cf,sl cc CR,.int .i64 t]])]) (by simp only [a1n,List.map_cons,List.map_nil,a04,List.getElem?_cons_succ,List.getElem?_cons_zero,Option.join_some,Option.map_some,a0m,hFr];simp +decide only [go_sem]<;>rfl) hd
  refine a23 (by kernel_rfl) (by kernel_rfl) rfl (hc.trans ?_) rfl
  simp +decide only [go_sem,hRr2]<;>rfl
 have hl128:(F.filter fun i=>!a8r t i).length ≤ 128:=Nat.le_trans (List.length_filter_le _ _) hF1
 have hso:=c5d (F.filter fun i=>!a8r t i).length none (F.filter fun i=>!a8r t i).toArray rest' hr'.flat (by simp) hl128
 rw [c16,e0k] at hso
 have hRf3:FlatR ((a4x t F).map a1l ++ rest'):=((OneR.intz _).app hr').flat
 have hsl:=a1y (E:=L.env) (draw:=false) (call:=sem L.env Mf) (g:=41) (fs:=[]) (cs:=[]) (ar:=[.slice 2 0 (F.filter fun i=>!a8r t i).length none]) (H:=[some (.row 3 [[.islice (F.map a1l) cf,sl cc CR,.int .i64 t]]),some (.row 1 []),some (.row 1 ((F.filter fun i=>!a8r t i).map a1l ++ rest'))]) (b:=2) (by kernel_rfl) (by kernel_rfl) rfl rfl (a0t hRf2) (FlatO.row hRf2) rfl rfl hso (FlatO.row hRf3) rfl
 simp only [List.set_cons_succ,List.set_cons_zero] at hsl
 have hlen:(F.filter fun i=>!a8r t i).length = (a4x t F).length:=by unfold a4x;rw [List.length_mergeSort]
 (refine svE Tryz.f24 ?_;simp only [Tryz.f24,gS])
 (repeat first|simp only [ww]|(apply xa;simp +decide only [go_sem,hcl,hdl,hsl];rfl;kernel_rfl))
 (apply c3w;(·simp +decide only [go_sem]<;>rfl))
 exact ⟨rest',hr',by rw [hlen];rfl⟩
theorem c2d (cf:Option Nat) (cc:Option (Option Nat)) (CR:List (List AV)) (t:Int) :
 ∃ r:AV × a06,(∃ rest,OneR rest ∧ r = (.slice 1 0 0 (some 0),[some (.row 3 [[.islice [] cf,sl cc CR,.int .i64 t]]),some (.row 1 rest)])) ∧ sem L.env Mf 24 [.agg [.islice [] cf,sl cc CR,.int .i64 t]] [] = some r:=by
 have hcl:a0e L.env false (sem L.env Mf) (.func (.func 39) [] []) [.islice [] cf] [some (.row 3 [[.islice [] cf,sl cc CR,.int .i64 t]])] = some (.slice 1 0 0 (some 0),[some (.row 3 [[.islice [] cf,sl cc CR,.int .i64 t]]),some (.row 1 [])],[]):=by
  have hc:=a0y (sem L.env Mf 39) [.islice [] cf] [some (.row 3 [[.islice [] cf,sl cc CR,.int .i64 t]])] (σ:=[]) rfl rfl rfl (args':=[.islice [] cf]) rfl (H0:=[]) rfl (d7z cf)
  refine a5s (by kernel_rfl) (by kernel_rfl) rfl (hc.trans ?_)
  simp +decide only [go_sem]<;>rfl
 obtain ⟨r,⟨rest',hr',rfl⟩,hd⟩:=b58 (some cf) cc [] CR t [] [] (some 0) (fun r h=>by simp at h) (by simp) (fun m h=>by cases h;simp)
 simp only [a2v,List.append_nil,List.map_nil,List.filter_nil,List.length_nil,List.nil_append] at hd
 have hRf2:=hr'.flat
 have hRr2:=fun π=>a01 π hRf2
 have hdl:a0e L.env false (sem L.env Mf) (.func (.func 37) [] []) [.slice 1 0 0 (some 0),.func (.func 40) [] [.ptr 0 0 0]] [some (.row 3 [[.islice [] cf,sl cc CR,.int .i64 t]]),some (.row 1 [])] =
  some (.slice 1 0 0 (some 0),[some (.row 3 [[.islice [] cf,sl cc CR,.int .i64 t]]),some (.row 1 rest')],[1,0]):=by
  have hc:=a0y (sem L.env Mf 37) [.slice 1 0 0 (some 0),.func (.func 40) [] [.ptr 0 0 0]] [some (.row 3 [[.islice [] cf,sl cc CR,.int .i64 t]]),some (.row 1 [])] (σ:=[1,0]) (by simp +decide only [go_sem]<;>rfl) rfl rfl (args':=[.slice 0 0 0 (some 0),.func (.func 40) [] [.ptr 1 0 0]]) rfl
   (H0:=[some (.row 1 []),some (.row 3 [[.islice [] cf,sl cc CR,.int .i64 t]])]) (by simp only [a1n,List.map_cons,List.map_nil,a04,List.getElem?_cons_succ,List.getElem?_cons_zero,Option.join_some,Option.map_some,a0m];simp +decide only [go_sem]<;>rfl) hd
  refine a23 (by kernel_rfl) (by kernel_rfl) rfl (hc.trans ?_) rfl
  simp +decide only [go_sem,hRr2]<;>rfl
 have hso:=c5d 0 (some 0) ([]:List Int).toArray rest' hr'.flat (by simp) (by omega)
 rw [c16,e0k] at hso
 simp only [List.mergeSort_nil,List.map_nil,List.nil_append] at hso
 have hsl:=a1y (E:=L.env) (draw:=false) (call:=sem L.env Mf) (g:=41) (fs:=[]) (cs:=[]) (ar:=[.slice 1 0 0 (some 0)]) (H:=[some (.row 3 [[.islice [] cf,sl cc CR,.int .i64 t]]),some (.row 1 rest')]) (b:=1) (by kernel_rfl) (by kernel_rfl) rfl rfl (a0t hRf2) (FlatO.row hRf2) rfl rfl hso (FlatO.row hRf2) rfl
 simp only [List.set_cons_succ,List.set_cons_zero] at hsl
 (refine svE Tryz.f24 ?_;simp only [Tryz.f24,gS])
 (repeat first|simp only [ww]|(apply xa;simp +decide only [go_sem,hcl,hdl,hsl];rfl;kernel_rfl))
 (apply c3w;(·simp +decide only [go_sem]<;>rfl))
 exact ⟨rest',hr',rfl⟩
theorem b5b (S:List Int) (rest:List (List AV)) (c:Option Nat) (hrest:OneR rest) (hS:S.length ≤ 1000) (hcc:∀ m,c = some m → S.length ≤ m) :
 ∃ r:AV × a06,(∃ rest',OneR rest' ∧ r = (.slice 0 0 (dd S).length c,[some (.row 1 ((dd S).map a1l ++ rest'))])) ∧ sem L.env Mf 23 [.slice 0 0 S.length c] [some (.row 1 (S.map a1l ++ rest))] = some r:=by
 have hR1:OneR (S.map a1l ++ rest):=(OneR.intz S).app hrest
 have hR:∀ (j:Nat) (i:Int),S[j]? = some i → (S.map a1l ++ rest)[j]? = some [AV.int .i64 i]:=by
  intro j i h
  rw [List.getElem?_append_left (by simpa using (List.getElem?_eq_some_iff.1 h).1),List.getElem?_map,h];rfl
 have hRl:S.length ≤ (S.map a1l ++ rest).length:=by simp
 have hRt:(S.map a1l ++ rest).take S.length = S.map a1l:=by rw [List.take_append_of_le_length (by simp),List.take_of_length_le (by simp)]
 have hcl:e2k L.env 35 = some (1,[.int .i64 0]):=by kernel_rfl
 have hsame:dd S = S → ∃ rest',OneR rest' ∧ S.map a1l ++ rest = (dd S).map a1l ++ rest':=fun h=>⟨rest,hrest,by rw [h]⟩
 generalize hRR:S.map a1l ++ rest = R at hR1 hR hRl hRt hsame ⊢
 have hRr:=fun π=>a01 π hR1.flat
 have hR0:=a03 hR1.flat
 by_cases h2:S.length < 2
 ·have d1:(S.length:Int) < 2:=by omega
  have hd:dd S = S:=by
   match S,h2 with
   | [],_=>rfl
   | [x],_=>rfl
  obtain ⟨rest',hr',he⟩:=hsame hd
  (refine svE Tryz.f23 ?_;simp only [Tryz.f23,gS])
  (repeat first|simp only [ww]|(apply xa;simp +decide only [go_sem,d1];rfl;kernel_rfl))
  (apply c3w;(·simp +decide only [go_sem,hRr]<;>rfl))
  exact ⟨rest',hr',by rw [he,hd]⟩
 ·have d1:¬ (S.length:Int) < 2:=by omega
  (refine svE Tryz.f23 ?_;simp only [Tryz.f23,gS])
  (repeat first|simp only [ww]|(apply xa;simp +decide only [go_sem,d1];rfl;kernel_rfl))
  refine a0l (σ:=Nat) kp23_0 (fun k=>[(0,.slice 0 0 S.length c),(3,.int .i64 k)]) (fun k=>[some (.row 1 R)]) (fun k=>S.length - k) (fun k=>1 ≤ k ∧ k ≤ S.length ∧ dd (S.take k) = S.take k) 1 ?_ ⟨Nat.le_refl _,by omega,?_⟩ ?_
  ·(simp +decide only [go_sem,a02,a00,hR0,hRr]<;>rfl)<;>rfl
  ·obtain ⟨x,l,rfl⟩:∃ x l,S = x :: l:=by
    cases S with
    | nil=>simp at h2
    | cons x l=>exact ⟨x,l,rfl⟩
   rfl
  ·rintro k ⟨hk1,hk2,hkd⟩
   by_cases hlt:k < S.length
   ·obtain ⟨j,rfl⟩:∃ j,k = j + 1:=⟨k - 1,by omega⟩
    obtain ⟨x,hx⟩:∃ x,S[j + 1]? = some x:=⟨_,z9e hlt⟩
    obtain ⟨y,hy⟩:∃ y,S[j]? = some y:=⟨_,z9e (by omega)⟩
    have hgx:=hR _ _ hx
    have hgy:=hR _ _ hy
    have d2:((j + 1:Nat):Int) < S.length:=by omega
    have hj:j < S.length:=by omega
    have hw:=wI1 (n:=j + 1) (by omega)
    have hwm:IntKind.i64.wrap (((j + 1:Nat):Int) - 1) = (j:Int):=by rw [w64 (by omega) (by omega)];omega
    have hdt:=c86 hy hx
    by_cases hxy:x = y
    ·rw [if_pos hxy,hkd,List.append_nil] at hdt
     have d4:j + 1 ≤ S.length:=by omega
     have hcap:S.length ≤ a14 S.length c:=by
      cases c with
      | none=>exact Nat.le_refl _
      | some m=>exact hcc m rfl
     have hcap2:j + 1 ≤ a14 S.length c:=by omega
     (repeat first|simp only [ww]|(apply xa;simp +decide only [go_sem,d2,hlt,hj,hRl,hgx,hgy,hw,hwm,hxy,d4,hcap,hcap2];rfl;kernel_rfl))
     obtain ⟨m,hm⟩:∃ m,m = S.length - (j + 1):=⟨_,rfl⟩
     refine a24 kp23_2 (fun N F H=>∃ (k q:Nat) (R':List (List AV)),N = m - q ∧ F = [(0,.slice 0 0 S.length c),(3,.int .i64 k),(4,.slice 0 (j + 1) (S.length - (j + 1)) (c.map fun m=>m - (j + 1))),(5,.int .i64 q)] ∧ H = [some (.row 1 R')] ∧ 1 ≤ q ∧ q ≤ m ∧ k < j + 1 + q ∧ R'.length = R.length ∧ OneR R' ∧
      R'.take k = (dd (S.take (j + 1 + q))).map a1l ∧ (dd (S.take (j + 1 + q))).length = k ∧ ∀ x,k ≤ x → R'[x]? = R[x]?) (m - 1) ?_ ?_
     ·refine ⟨_,_,by (simp +decide only [go_sem,a02,a00,hR0,hRr]<;>rfl)<;>rfl,j + 1,1,R,rfl,rfl,rfl,Nat.le_refl _,by omega,by omega,rfl,hR1,?_,?_,fun _ _=>rfl⟩
      ·rw [hdt,List.map_take,← hRt,List.take_take,Nat.min_eq_left (by omega)]
      ·rw [hdt,List.length_take];omega
     ·rintro N F1 H1 ⟨k,q,R',rfl,rfl,rfl,hq1,hq2,hkq,hRl',hR1',hRt',hkl,hRx⟩
      have hRr':=fun π=>a01 π hR1'.flat
      have hR0':=a03 hR1'.flat
      by_cases hqm:q < m
      ·obtain ⟨u,hu⟩:∃ u,S[j + 1 + q]? = some u:=⟨_,z9e (by omega)⟩
       obtain ⟨v,hv⟩:∃ v,S[j + q]? = some v:=⟨_,z9e (by omega)⟩
       have hgu:R'[j + 1 + q]? = some [AV.int .i64 u]:=by rw [hRx _ (by omega)];exact hR _ _ hu
       have hgv:R'[j + 1 + (q - 1)]? = some [AV.int .i64 v]:=by rw [show j + 1 + (q - 1) = j + q by omega,hRx _ (by omega)];exact hR _ _ hv
       have c1:(q:Int) < (S.length - (j + 1):Nat):=by omega
       have c2:q < S.length - (j + 1):=by omega
       have c3:q - 1 < S.length - (j + 1):=by omega
       have c4:j + 1 + (S.length - (j + 1)) ≤ R'.length:=by omega
       have hwq:=wI1 (n:=q) (by omega)
       have hwq1:IntKind.i64.wrap ((q:Int) - 1) = ((q - 1:Nat):Int):=by rw [w64 (by omega) (by omega)];omega
       have hdq:dd (S.take (j + 1 + (q + 1))) = dd (S.take (j + 1 + q)) ++ if u = v then [] else [u]:=by
        rw [show j + 1 + (q + 1) = j + q + 2 by omega,show j + 1 + q = j + q + 1 by omega]
        exact c86 hv (by rw [show j + q + 1 = j + 1 + q by omega];exact hu)
       by_cases huv:u = v
       ·rw [if_pos huv,List.append_nil] at hdq
        (repeat first|simp only [ww]|(apply xa;simp +decide only [go_sem,c1,c2,c3,c4,hgu,hgv,hwq,hwq1,huv];rfl;kernel_rfl))
        refine a12 (m - (q + 1)) (by omega) ⟨_,_,by (simp +decide only [go_sem,a02,a00,hR0',hRr']<;>rfl)<;>rfl,k,q + 1,R',rfl,rfl,rfl,by omega,by omega,by omega,hRl',hR1',by rw [hdq];exact hRt',by rw [hdq];exact hkl,hRx⟩
       ·rw [if_neg huv] at hdq
        have c5:k < S.length:=by omega
        have c6:S.length ≤ R'.length:=by omega
        have hwk:=wI1 (n:=k) (by omega)
        have hR2:=hR1'.set k u
        have hRr2:=fun π=>a01 π hR2.flat
        have hR02:=a03 hR2.flat
        obtain ⟨y0,hgk⟩:=hR1'.get (i:=k) (by omega)
        (repeat first|simp only [ww]|(apply xa;simp +decide only [go_sem,c1,c2,c3,c4,hgu,hgv,hwq,hwq1,huv,c5,c6,hwk,hgk];rfl;kernel_rfl))
        refine a12 (m - (q + 1)) (by omega) ⟨_,_,by (simp +decide only [go_sem,a02,a00,hR02,hRr2]<;>rfl)<;>rfl,k + 1,q + 1,_,rfl,rfl,rfl,by omega,by omega,by omega,by rw [List.length_set];exact hRl',hR2,?_,?_,fun x hx=>by rw [List.getElem?_set_ne (by omega)];exact hRx x (by omega)⟩
        ·rw [hdq,List.take_add_one,List.getElem?_set_self (by omega),List.take_set_of_le (Nat.le_refl k),hRt',List.map_append];rfl
        ·rw [hdq,List.length_append,hkl];rfl
      ·obtain rfl:q = m:=by omega
       have c1:¬ (q:Int) < (S.length - (j + 1):Nat):=by omega
       have c2:¬ S.length - k = 0:=by omega
       have c3:k + (S.length - k) ≤ R'.length:=by omega
       have c4:k ≤ S.length:=by omega
       have c5:k ≤ a14 S.length c:=by omega
       have hall:S.take (j + 1 + q) = S:=List.take_of_length_le (by omega)
       rw [hall] at hRt' hkl
       have hrest2:OneR (List.replicate (S.length - k) [AV.int .i64 0] ++ R'.drop (k + (S.length - k))):=(OneR.rep _ _).app (hR1'.drop _)
       (repeat first|simp only [ww]|(apply xa;simp +decide only [go_sem,c1,c2,c3,c4,c5,hcl,hcap,hRt',List.append_assoc];rfl;kernel_rfl))
       have hfin:=fun π=>a01 π ((OneR.intz (dd S)).app hrest2).flat
       (apply c3w;(·simp +decide only [go_sem,hfin]<;>rfl))
       exact ⟨_,hrest2,by rw [hkl]⟩
    ·rw [if_neg hxy,hkd] at hdt
     (repeat first|simp only [ww]|(apply xa;simp +decide only [go_sem,d2,hlt,hj,hRl,hgx,hgy,hw,hwm,hxy];rfl;kernel_rfl))
     refine a1m (j + 1 + 1) ?_ (by omega) ⟨by omega,by omega,?_⟩
     ·(simp +decide only [go_sem,a02,a00,hR0,hRr]<;>rfl)<;>rfl
     ·rw [hdt,b0d hx]
   ·obtain rfl:k = S.length:=by omega
    have d2:¬ (S.length:Int) < S.length:=by omega
    rw [List.take_length] at hkd
    obtain ⟨rest',hr',he⟩:=hsame hkd
    (repeat first|simp only [ww]|(apply xa;simp +decide only [go_sem,d2];rfl;kernel_rfl))
    (apply c3w;(·simp +decide only [go_sem,hRr]<;>rfl))
    exact ⟨rest',hr',by rw [he,hkd]⟩
theorem c2j (m:Nat) (R:List (List AV)) (c:Option Nat) (hR:OneR R) (hl:m ≤ R.length) (hcc:∀ k,c = some k → m ≤ k):sem L.env Mf 22 [.slice 0 0 m c] [some (.row 1 R)] = some (.slice 0 0 m (some m),[some (.row 1 R)]):=by
 have hcap:m ≤ a14 m c:=by
  cases c with
  | none=>exact Nat.le_refl _
  | some k=>exact hcc k rfl
 have hRr:=fun π=>a01 π hR.flat
 have hw:0 ≤ m:=Nat.zero_le _
 (refine sv Tryz.f22 ?_;simp only [Tryz.f22,gS])
 (repeat first|simp only [ww]|(apply xa;simp +decide only [go_sem,hcap,hl,hw];rfl;kernel_rfl))
 (apply fqb;simp +decide only [go_sem,hRr]<;>rfl)
theorem b6i (t:Int) (F:List Int):(a4x t F).length ≤ F.length:=by unfold a4x;rw [List.length_mergeSort];exact List.length_filter_le _ _
theorem c9s (cf:Option Nat) (cc:Option (Option Nat)) (F:List Int) (CR:List (List AV)) (t:Int) (hF1:F.length ≤ 128) :
 sem L.env Mf 10 [.agg [.islice (F.map a1l) cf,sl cc CR,.int .i64 t]] [] = some (.islice ((dd (a4x t F)).map a1l) (some (dd (a4x t F)).length),[]):=by
 rcases Nat.eq_zero_or_pos F.length with h|hF
 ·obtain rfl:F = []:=List.length_eq_zero_iff.1 h
  obtain ⟨r,⟨rest,hr,rfl⟩,hf⟩:=c2d cf cc CR t
  have hfr:a4x t [] = []:=by unfold a4x;simp
  rw [hfr]
  have hRr:=fun π=>a01 π hr.flat
  have hc1:a0e L.env false (sem L.env Mf) (.func (.func 24) [] []) [.agg [.islice [] cf,sl cc CR,.int .i64 t]] [some (.row 3 [[.islice [] cf,sl cc CR,.int .i64 t]])] = some (.slice 2 0 0 (some 0),[some (.row 3 [[.islice [] cf,sl cc CR,.int .i64 t]]),some (.row 3 [[.islice [] cf,sl cc CR,.int .i64 t]]),some (.row 1 rest)],[]):=by
   have hc:=a0y (sem L.env Mf 24) [.agg [.islice [] cf,sl cc CR,.int .i64 t]] [some (.row 3 [[.islice [] cf,sl cc CR,.int .i64 t]])] (σ:=[]) (by simp +decide only [go_sem]<;>rfl) rfl rfl (args':=[.agg [.islice [] cf,sl cc CR,.int .i64 t]]) (by simp +decide only [go_sem]<;>rfl) (H0:=[]) rfl hf
   refine a5s (by kernel_rfl) (by kernel_rfl) rfl (hc.trans ?_)
   simp +decide only [go_sem,hRr]<;>rfl
  obtain ⟨r,⟨rest2,hr2,rfl⟩,hk⟩:=b5b [] rest (some 0) hr (by simp) (fun m h=>by cases h;simp)
  simp only [List.map_nil,List.nil_append,List.length_nil,dd] at hk
  have hc2:=a1y (E:=L.env) (draw:=false) (call:=sem L.env Mf) (g:=23) (fs:=[]) (cs:=[]) (ar:=[.slice 2 0 0 (some 0)]) (H:=[some (.row 3 [[.islice [] cf,sl cc CR,.int .i64 t]]),some (.row 3 [[.islice [] cf,sl cc CR,.int .i64 t]]),some (.row 1 rest)]) (b:=2) (by kernel_rfl) (by kernel_rfl) rfl rfl (a0t hr.flat) (FlatO.row hr.flat) rfl rfl hk (FlatO.row hr2.flat) rfl
  have hc3:=a1y (E:=L.env) (draw:=false) (call:=sem L.env Mf) (g:=22) (fs:=[]) (cs:=[]) (ar:=[.slice 2 0 0 (some 0)]) (H:=[some (.row 3 [[.islice [] cf,sl cc CR,.int .i64 t]]),some (.row 3 [[.islice [] cf,sl cc CR,.int .i64 t]]),some (.row 1 rest2)]) (b:=2) (by kernel_rfl) (by kernel_rfl) rfl rfl (a0t hr2.flat) (FlatO.row hr2.flat) rfl rfl (c2j 0 rest2 (some 0) hr2 (by omega) (fun k h=>by cases h;omega)) (FlatO.row hr2.flat) rfl
  simp only [List.set_cons_succ,List.set_cons_zero] at hc2 hc3
  (refine sv Tryz.f10 ?_;simp only [Tryz.f10,gS])
  (repeat first|simp only [ww]|(apply xa;simp +decide only [go_sem,hc1,hc2,hc3];rfl;kernel_rfl))
  (apply fqb;simp +decide only [go_sem]<;>rfl)
 ·obtain ⟨r,⟨rest,hr,rfl⟩,hf⟩:=c2b cf cc F CR t hF hF1
  have hl:=b6i t F
  generalize a4x t F = S at *
  have hR1:=(OneR.intz S).app hr
  have hRr:=fun π=>a01 π hR1.flat
  have hc1:a0e L.env false (sem L.env Mf) (.func (.func 24) [] []) [.agg [.islice (F.map a1l) cf,sl cc CR,.int .i64 t]] [some (.row 3 [[.islice (F.map a1l) cf,sl cc CR,.int .i64 t]])] = some (.slice 3 0 S.length none,[some (.row 3 [[.islice (F.map a1l) cf,sl cc CR,.int .i64 t]]),some (.row 3 [[.islice (F.map a1l) cf,sl cc CR,.int .i64 t]]),some (.row 1 []),some (.row 1 (S.map a1l ++ rest))],[]):=by
   have hc:=a0y (sem L.env Mf 24) [.agg [.islice (F.map a1l) cf,sl cc CR,.int .i64 t]] [some (.row 3 [[.islice (F.map a1l) cf,sl cc CR,.int .i64 t]])] (σ:=[]) (by simp +decide only [go_sem]<;>rfl) rfl rfl (args':=[.agg [.islice (F.map a1l) cf,sl cc CR,.int .i64 t]]) (by simp +decide only [go_sem]<;>rfl) (H0:=[]) rfl hf
   refine a5s (by kernel_rfl) (by kernel_rfl) rfl (hc.trans ?_)
   simp +decide only [go_sem,hRr]<;>rfl
  obtain ⟨r,⟨rest2,hr2,rfl⟩,hk⟩:=b5b S rest none hr (by omega) (fun m h=>by cases h)
  have hR2:=(OneR.intz (dd S)).app hr2
  have hRr2:=fun π=>a01 π hR2.flat
  have hc2:=a1y (E:=L.env) (draw:=false) (call:=sem L.env Mf) (g:=23) (fs:=[]) (cs:=[]) (ar:=[.slice 3 0 S.length none]) (H:=[some (.row 3 [[.islice (F.map a1l) cf,sl cc CR,.int .i64 t]]),some (.row 3 [[.islice (F.map a1l) cf,sl cc CR,.int .i64 t]]),some (.row 1 []),some (.row 1 (S.map a1l ++ rest))]) (b:=3) (by kernel_rfl) (by kernel_rfl) rfl rfl (a0t hR1.flat) (FlatO.row hR1.flat) rfl rfl hk (FlatO.row hR2.flat) rfl
  have hc3:=a1y (E:=L.env) (draw:=false) (call:=sem L.env Mf) (g:=22) (fs:=[]) (cs:=[]) (ar:=[.slice 3 0 (dd S).length none]) (H:=[some (.row 3 [[.islice (F.map a1l) cf,sl cc CR,.int .i64 t]]),some (.row 3 [[.islice (F.map a1l) cf,sl cc CR,.int .i64 t]]),some (.row 1 []),some (.row 1 ((dd S).map a1l ++ rest2))]) (b:=3) (by kernel_rfl) (by kernel_rfl) rfl rfl (a0t hR2.flat) (FlatO.row hR2.flat) rfl rfl (c2j (dd S).length ((dd S).map a1l ++ rest2) none hR2 (by simp) (fun k h=>by cases h)) (FlatO.row hR2.flat) rfl
  simp only [List.set_cons_succ,List.set_cons_zero] at hc2 hc3
  have d1:(dd S).length ≤ ((dd S).map a1l ++ rest2).length:=by simp
  have d2:((dd S).map a1l ++ rest2).take (dd S).length = (dd S).map a1l:=by rw [List.take_append_of_le_length (by simp),List.take_of_length_le (by simp)]
  generalize (dd S).map a1l ++ rest2 = R2 at *
  have hfz:=fun d=>a0s 0 d (OneR.intz (dd S)).flat
  (refine sv Tryz.f10 ?_;simp only [Tryz.f10,gS])
  (repeat first|simp only [ww]|(apply xa;simp +decide only [go_sem,hc1,hc2,hc3];rfl;kernel_rfl))
  (apply fqb;simp +decide only [go_sem,d1,d2,hRr2,hfz]<;>rfl)
theorem e2i (cf cc:Option (Option Nat)) (FR:List (List AV)) (C:List Int) (t n:Int) (hC:C.length ≤ 1000) :
 sem L.env Mf 12 [.agg [sl cf FR,sl cc (C.map a1l),.int .i64 t],.int .i64 n] [] = some (.tuple [.int .i64 (C.countP fun x=>decide (n ≤ x):Nat),.int .i64 C.length],[]):=by
 have hlen:(C.map a1l).length = C.length:=List.length_map ..
 have e0:((0:Nat):Int) = 0:=rfl
 (refine sv Tryz.f12 ?_;simp only [Tryz.f12,gS])
 (repeat first|simp only [ww]|(apply xa;simp +decide only [go_sem,hlen];rfl;kernel_rfl))
 refine a0l (σ:=Nat) kp12_0 (fun i=>[(1,.int .i64 n),(2,.ptr 0 0 0),(4,.int .i64 ((C.take i).countP fun x=>decide (n ≤ x):Nat)),(9,sl cc (C.map a1l)),(10,.int .i64 C.length),(11,.int .i64 i)]) (fun i=>[some (.row 3 [[sl cf FR,sl cc (C.map a1l),.int .i64 t]])]) (fun i=>C.length - i) (fun i=>i ≤ C.length) 0 ?_ (Nat.zero_le _) ?_
 ·(simp +decide only [go_sem,a02,a00]<;>rfl)<;>rfl
 ·intro i hi
  have hcb:=List.countP_le_length (p:=fun x=>decide (n ≤ x)) (l:=C.take i)
  rw [List.length_take] at hcb
  by_cases hlt:i < C.length
  ·obtain ⟨x,hx⟩:∃ x,C[i]? = some x:=⟨_,z9e hlt⟩
   have hg:(C.map a1l)[i]? = some [AV.int .i64 x]:=by rw [List.getElem?_map,hx];rfl
   have d1:(i:Int) < C.length:=by omega
   have wi:=wI1 (n:=i) (by omega)
   have hsn:(C.take (i + 1)).countP (fun x=>decide (n ≤ x)) = (C.take i).countP (fun x=>decide (n ≤ x)) + if n ≤ x then 1 else 0:=by
    rw [b0d hx,List.countP_append,List.countP_cons,List.countP_nil];simp
   generalize (C.take i).countP (fun x=>decide (n ≤ x)) = u at hsn hcb ⊢
   by_cases hn:n ≤ x
   ·have wu:=wI1 (n:=u) (by omega)
    rw [if_pos hn] at hsn
    (repeat first|simp only [ww]|(apply xa;simp +decide only [go_sem,hlen,d1,hlt,hg,wi,hn,wu];rfl;kernel_rfl))
    refine a1m (i + 1) ?_ (by omega) (by omega)
    rw [hsn]
    (simp +decide only [go_sem,a02,a00]<;>rfl)<;>rfl
   ·rw [if_neg hn] at hsn
    (repeat first|simp only [ww]|(apply xa;simp +decide only [go_sem,hlen,d1,hlt,hg,wi,hn];rfl;kernel_rfl))
    refine a1m (i + 1) ?_ (by omega) (by omega)
    rw [hsn]
    (simp +decide only [go_sem,a02,a00]<;>rfl)<;>rfl
  ·obtain rfl:i = C.length:=by omega
   have d1:¬ (C.length:Int) < C.length:=by omega
   rw [List.take_length]
   (repeat first|simp only [ww]|(apply xa;simp +decide only [go_sem,hlen,d1];rfl;kernel_rfl))
   (apply fqb;simp +decide only [go_sem]<;>rfl)
set_option maxHeartbeats 1000000
theorem d77 (t:Int) (F:List Int):∀ x ∈ a4x t F,0 ≤ x ∧ x < t:=by
 intro x hx
 unfold a4x at hx
 rw [List.mem_mergeSort] at hx
 have:=(List.mem_filter.1 hx).2
 simp only [a8r,Bool.not_eq_true',decide_eq_false_iff_not] at this
 omega
theorem e2f (cf cc:Option (Option Nat)) (FR CR:List (List AV)) (t:Int) (ht:t < 0 ∨ 4096 < t) :
 sem L.env Mf 11 [.agg [sl cf FR,sl cc CR,.int .i64 t]] [] = some (.nilslice,[]):=by
 by_cases h:t < 0
 ·(refine sv Tryz.f11 ?_;simp only [Tryz.f11,gS])
  (repeat first|simp only [ww]|(apply xa;simp +decide only [go_sem,h];rfl;kernel_rfl))
  (apply fqb;simp +decide only [go_sem]<;>rfl)
 ·have h2:(4096:Int) < t:=by omega
  (refine sv Tryz.f11 ?_;simp only [Tryz.f11,gS])
  (repeat first|simp only [ww]|(apply xa;simp +decide only [go_sem,h,h2];rfl;kernel_rfl))
  (apply fqb;simp +decide only [go_sem]<;>rfl)
theorem d7p (cf:Option Nat) (cc:Option (Option Nat)) (F:List Int) (CR:List (List AV)) (T:Nat) (hF1:F.length ≤ 128) (hT:T ≤ 4096) :
 sem L.env Mf 11 [.agg [.islice (F.map a1l) cf,sl cc CR,.int .i64 T]] [] = some (.islice (a5m (leN (a4x T F)) T) (some T),[]):=by
 obtain ⟨t,ht⟩:∃ t:Int,t = T:=⟨_,rfl⟩
 rw [← ht]
 have hin:=d77 t F
 have hl:=b6i t F
 have hrz:=b7m T
 have hrf:=fun f=>a03 (a6m f T)
 have hrr:=fun f π=>a01 π (a6m f T)
 have hfz:=fun f d=>a0s 0 d (a6m f T)
 have hc:(∃ (c:Option Nat) (rest:List (List AV)),OneR rest ∧ a0e L.env false (sem L.env Mf) (.func (.func 24) [] []) [.agg [.islice (F.map a1l) cf,sl cc CR,.int .i64 t]] [some (.row 3 [[.islice (F.map a1l) cf,sl cc CR,.int .i64 t]]),some (.row 1 (a5m (fun _=>0) T))] =
  some (.slice 3 0 (a4x t F).length c,[some (.row 3 [[.islice (F.map a1l) cf,sl cc CR,.int .i64 t]]),some (.row 1 (a5m (fun _=>0) T)),some (.row 3 [[.islice (F.map a1l) cf,sl cc CR,.int .i64 t]]),some (.row 1 ((a4x t F).map a1l ++ rest))],[])) ∨
  (∃ (c:Option Nat) (rest:List (List AV)),OneR rest ∧ a0e L.env false (sem L.env Mf) (.func (.func 24) [] []) [.agg [.islice (F.map a1l) cf,sl cc CR,.int .i64 t]] [some (.row 3 [[.islice (F.map a1l) cf,sl cc CR,.int .i64 t]]),some (.row 1 (a5m (fun _=>0) T))] =
   some (.slice 4 0 (a4x t F).length c,[some (.row 3 [[.islice (F.map a1l) cf,sl cc CR,.int .i64 t]]),some (.row 1 (a5m (fun _=>0) T)),some (.row 3 [[.islice (F.map a1l) cf,sl cc CR,.int .i64 t]]),some (.row 1 []),some (.row 1 ((a4x t F).map a1l ++ rest))],[])):=by
  rcases Nat.eq_zero_or_pos F.length with h|hF
  ·obtain rfl:F = []:=List.length_eq_zero_iff.1 h
   obtain ⟨r,⟨rest,hr,rfl⟩,hf⟩:=c2d cf cc CR t
   have hfr:a4x t [] = []:=by unfold a4x;simp
   have hRr:=fun π=>a01 π hr.flat
   refine .inl ⟨some 0,rest,hr,?_⟩
   rw [hfr]
   have hc:=a0y (sem L.env Mf 24) [.agg [.islice [] cf,sl cc CR,.int .i64 t]] [some (.row 3 [[.islice [] cf,sl cc CR,.int .i64 t]]),some (.row 1 (a5m (fun _=>0) T))] (σ:=[]) (by simp +decide only [go_sem]<;>rfl) rfl rfl (args':=[.agg [.islice [] cf,sl cc CR,.int .i64 t]]) (by simp +decide only [go_sem]<;>rfl) (H0:=[]) rfl hf
   refine a5s (by kernel_rfl) (by kernel_rfl) rfl (hc.trans ?_)
   simp +decide only [go_sem,hRr]<;>rfl
  ·obtain ⟨r,⟨rest,hr,rfl⟩,hf⟩:=c2b cf cc F CR t hF hF1
   have hRr:=fun π=>a01 π ((OneR.intz (a4x t F)).app hr).flat
   refine .inr ⟨none,rest,hr,?_⟩
   have hc:=a0y (sem L.env Mf 24) [.agg [.islice (F.map a1l) cf,sl cc CR,.int .i64 t]] [some (.row 3 [[.islice (F.map a1l) cf,sl cc CR,.int .i64 t]]),some (.row 1 (a5m (fun _=>0) T))] (σ:=[]) (by simp +decide only [go_sem]<;>rfl) rfl rfl (args':=[.agg [.islice (F.map a1l) cf,sl cc CR,.int .i64 t]]) (by simp +decide only [go_sem]<;>rfl) (H0:=[]) rfl hf
   refine a5s (by kernel_rfl) (by kernel_rfl) rfl (hc.trans ?_)
   simp +decide only [go_sem,hRr]<;>rfl
 generalize a4x t F = S at *
 subst ht
 have d1:¬ (T:Int) < 0:=by omega
 have d2:¬ (4096:Int) < T:=by omega
 have hmk:b9e L.env 3 (T:Int) (T:Int) = true:=a3i (by omega) (by decide +kernel)
 rcases hc with ⟨c,rest,hr,hc⟩|⟨c,rest,hr,hc⟩
 all_goals
  have hR1:=(OneR.intz S).app hr
  have hRr:=fun π=>a01 π hR1.flat
  have hR0:=a03 hR1.flat
  have hRg:∀ (j:Nat) (i:Int),S[j]? = some i → (S.map a1l ++ rest)[j]? = some [AV.int .i64 i]:=by
   intro j i h
   rw [List.getElem?_append_left (by simpa using (List.getElem?_eq_some_iff.1 h).1),List.getElem?_map,h];rfl
  have hRl:S.length ≤ (S.map a1l ++ rest).length:=by simp
  generalize S.map a1l ++ rest = R at *
  (refine sv Tryz.f11 ?_;simp only [Tryz.f11,gS])
  (repeat first|simp only [ww]|(apply xa;simp +decide only [go_sem,d1,d2,hmk,hrz,hc];rfl;kernel_rfl))
  refine a0l (σ:=Nat) kp11_0 (fun p=>[(3,.slice 0 0 T (some T)),(19,.slice 1 0 S.length c),(20,.int .i64 S.length),(21,.int .i64 p)]) (fun p=>[some (.row 1 (a5m (eqN (S.take p)) T)),some (.row 1 R)]) (fun p=>S.length - p) (fun p=>p ≤ S.length) 0 ?_ (Nat.zero_le _) ?_
  ·have hz0:a5m (eqN (S.take 0)) T = a5m (fun _=>0) T:=rfl
   rw [hz0]
   (simp +decide only [go_sem,a02,a00,hrf,hrr,hRr,hR0]<;>rfl)<;>rfl
  ·intro p hp
   have hlT:=fun f=>a5y f T
   by_cases hlt:p < S.length
   ·obtain ⟨x,hx⟩:∃ x,S[p]? = some x:=⟨_,z9e hlt⟩
    obtain ⟨hx0,hx1⟩:=hin x (List.mem_of_getElem? hx)
    obtain ⟨i,rfl⟩:∃ i:Nat,x = i:=⟨x.toNat,by omega⟩
    have hgx:=hRg p i hx
    have c1:(p:Int) < S.length:=by omega
    have c2:i < T:=by omega
    have wp:=wI1 (n:=p) (by omega)
    have hg:=fun f:Nat → Int=>a5z (f:=f) c2
    have hb:=c84 (S.take p) i
    rw [List.length_take] at hb
    have wx:IntKind.i64.wrap (eqN (S.take p) i + 1) = eqN (S.take p) i + 1:=w64 (by omega) (by omega)
    have hset:(a5m (eqN (S.take p)) T).set i [.int .i64 (eqN (S.take p) i + 1)] = a5m (eqN (S.take (p + 1))) T:=by
     rw [b5t]
     refine a8h fun j _=>?_
     rw [b0d hx,d29]
    (repeat first|simp only [ww]|(apply xa;simp +decide only [go_sem,c1,c2,hlt,hRl,hgx,wp,hg,wx,hset,hlT];rfl;kernel_rfl))
    refine a1m (p + 1) ?_ (by omega) (by omega)
    (simp +decide only [go_sem,a02,a00,hrf,hrr,hRr,hR0]<;>rfl)<;>rfl
   ·obtain rfl:p = S.length:=by omega
    have c1:¬ (S.length:Int) < S.length:=by omega
    rw [List.take_length]
    (repeat first|simp only [ww]|(apply xa;simp +decide only [go_sem,c1];rfl;kernel_rfl))
    refine a0l (σ:=Nat) kp11_2 (fun q=>[(3,.slice 0 0 T (some T)),(6,.int .i64 q)]) (fun q=>[some (.row 1 (a5m (fun j=>if j < q then leN S j else eqN S j) T))]) (fun q=>T + 1 - q) (fun q=>1 ≤ q ∧ q ≤ T + 1) 1 ?_ ⟨by omega,by omega⟩ ?_
    ·have hz0:a5m (eqN S) T = a5m (fun j=>if j < 1 then leN S j else eqN S j) T:=by
      refine a8h fun j _=>?_
      split
      ·obtain rfl:j = 0:=by omega
       exact (d16 fun x hx=>(hin x hx).1).symm
      ·rfl
     rw [← hz0]
     (simp +decide only [go_sem,a02,a00,hrf,hrr,hRr,hR0]<;>rfl)<;>rfl
    ·rintro q ⟨hq1,hq2⟩
     by_cases hqT:q < T
     ·obtain ⟨j,rfl⟩:∃ j,q = j + 1:=⟨q - 1,by omega⟩
      have c3:((j + 1:Nat):Int) < T:=by omega
      have c4:j < T:=by omega
      have wq:=wI1 (n:=j + 1) (by omega)
      have wq1:IntKind.i64.wrap (((j + 1:Nat):Int) - 1) = (j:Nat):=by rw [w64 (by omega) (by omega)];omega
      have hb:=c6x S (j + 1)
      have hsu:=d17 S j
      have hg1:=a5z (f:=fun x=>if x < j + 1 then leN S x else eqN S x) hqT
      have hg2:=a5z (f:=fun x=>if x < j + 1 then leN S x else eqN S x) c4
      rw [if_neg (by omega)] at hg1
      rw [if_pos (by omega)] at hg2
      have wx:IntKind.i64.wrap (eqN S (j + 1) + leN S j) = leN S (j + 1):=by rw [← hsu];exact w64 (by omega) (by omega)
      have hset:(a5m (fun x=>if x < j + 1 then leN S x else eqN S x) T).set (j + 1) [.int .i64 (leN S (j + 1))] = a5m (fun x=>if x < j + 1 + 1 then leN S x else eqN S x) T:=by
       rw [b5t]
       refine a8h fun x _=>?_
       by_cases h:x = j + 1
       ·subst h;rw [if_pos rfl,if_pos (by omega)]
       ·rw [if_neg h]
        by_cases h2:x < j + 1
        ·rw [if_pos h2,if_pos (by omega)]
        ·rw [if_neg h2,if_neg (by omega)]
      (repeat first|simp only [ww]|(apply xa;simp +decide only [go_sem,c3,c4,hqT,hg1,hg2,wq,wq1,wx,hset,hlT];rfl;kernel_rfl))
      refine a1m (j + 1 + 1) ?_ (by omega) ⟨by omega,by omega⟩
      (simp +decide only [go_sem,a02,a00,hrf,hrr]<;>rfl)<;>rfl
     ·have c3:¬ (q:Int) < T:=by omega
      have hfin:a5m (fun x=>if x < q then leN S x else eqN S x) T = a5m (leN S) T:=a8h fun x hx=>if_pos (by omega)
      rw [hfin]
      have htk:(a5m (leN S) T).take T = a5m (leN S) T:=List.take_of_length_le (by rw [a5y];exact Nat.le_refl _)
      (repeat first|simp only [ww]|(apply xa;simp +decide only [go_sem,c3];rfl;kernel_rfl))
      (apply fqb;simp +decide only [go_sem,hlT,htk,hfz,hrr]<;>rfl)
theorem d6w (cc:Option (Option Nat)) (CR:List (List AV)) (t:Int):sem L.env Mf 55 [.nilslice,.func (.func 40) [] [.ptr 0 0 0]] [some (.row 3 [[.nilslice,sl cc CR,.int .i64 t]])] = some (.int .i64 (-1),[some (.row 3 [[.nilslice,sl cc CR,.int .i64 t]])]):=by
 (refine sv Tryz.f55 ?_;simp only [Tryz.f55,gS])
 (repeat first|simp only [ww]|(apply xa;simp +decide only [go_sem];rfl;kernel_rfl))
 refine a24 kp55_0 (fun N F H=>F = [(0,.nilslice),(1,.func (.func 40) [] [.ptr 0 0 0]),(7,.int .i64 0),(8,.int .i64 0)] ∧ H = [some (.row 3 [[.nilslice,sl cc CR,.int .i64 t]])]) 0 ?_ ?_
 ·exact ⟨_,_,by (simp +decide only [go_sem,a02,a00]<;>rfl)<;>rfl,rfl,rfl⟩
 ·rintro N F H ⟨rfl,rfl⟩
  (repeat first|simp only [ww]|(apply xa;simp +decide only [go_sem];rfl;kernel_rfl))
  (apply fqb;simp +decide only [go_sem]<;>rfl)
theorem d2c (cc:Option (Option Nat)) (CR:List (List AV)) (t:Int):sem L.env Mf 37 [.nilslice,.func (.func 40) [] [.ptr 0 0 0]] [some (.row 3 [[.nilslice,sl cc CR,.int .i64 t]])] = some (.nilslice,[some (.row 3 [[.nilslice,sl cc CR,.int .i64 t]])]):=by
 have hi:=a1y (E:=L.env) (draw:=false) (call:=sem L.env Mf) (g:=55) (fs:=[]) (cs:=[]) (ar:=[.nilslice,.func (.func 40) [] [.ptr 0 0 0]]) (H:=[some (.row 3 [[.nilslice,sl cc CR,.int .i64 t]])]) (b:=0) (o:=.row 3 [[.nilslice,sl cc CR,.int .i64 t]]) (o':=.row 3 [[.nilslice,sl cc CR,.int .i64 t]]) (by kernel_rfl) (by kernel_rfl) rfl rfl (by simp +decide only [go_sem]<;>rfl) (fun π=>by simp +decide only [go_sem,a0m]<;>rfl) rfl rfl (d6w cc CR t) (fun π=>by simp +decide only [go_sem,a0m]<;>rfl) rfl
 simp only [List.set_cons_zero] at hi
 (refine sv Tryz.f37 ?_;simp only [Tryz.f37,gS])
 (repeat first|simp only [ww]|(apply xa;simp +decide only [go_sem,hi];rfl;kernel_rfl))
 (apply fqb;simp +decide only [go_sem]<;>rfl)
theorem d7y:sem L.env Mf 39 [.nilslice] [] = some (.nilslice,[]):=by
 (refine sv Tryz.f39 ?_;simp only [Tryz.f39,gS])
 (repeat first|simp only [ww]|(apply xa;simp +decide only [go_sem];rfl;kernel_rfl))
 (apply fqb;simp +decide only [go_sem]<;>rfl)
theorem c2c (cc:Option (Option Nat)) (CR:List (List AV)) (t:Int):sem L.env Mf 24 [.agg [.nilslice,sl cc CR,.int .i64 t]] [] = some (.nilslice,[]):=by
 have hc:=fun H=>a05 (E:=L.env) (draw:=false) (call:=sem L.env Mf) (g:=39) (fs:=[]) (cs:=[]) (ar:=[.nilslice]) (H:=H) (by kernel_rfl) (by kernel_rfl) rfl rfl d7y rfl
 have hd:=a1y (E:=L.env) (draw:=false) (call:=sem L.env Mf) (g:=37) (fs:=[]) (cs:=[]) (ar:=[.nilslice,.func (.func 40) [] [.ptr 0 0 0]]) (H:=[some (.row 3 [[.nilslice,sl cc CR,.int .i64 t]])]) (b:=0) (o:=.row 3 [[.nilslice,sl cc CR,.int .i64 t]]) (o':=.row 3 [[.nilslice,sl cc CR,.int .i64 t]]) (by kernel_rfl) (by kernel_rfl) rfl rfl (by simp +decide only [go_sem]<;>rfl) (fun π=>by simp +decide only [go_sem,a0m]<;>rfl) rfl rfl (d2c cc CR t) (fun π=>by simp +decide only [go_sem,a0m]<;>rfl) rfl
 simp only [List.set_cons_zero] at hd
 have hs:=fun H=>a05 (E:=L.env) (draw:=false) (call:=sem L.env Mf) (g:=41) (fs:=[]) (cs:=[]) (ar:=[.nilslice]) (H:=H) (by kernel_rfl) (by kernel_rfl) rfl rfl (e0j none) rfl
 (refine sv Tryz.f24 ?_;simp only [Tryz.f24,gS])
 (repeat first|simp only [ww]|(apply xa;simp +decide only [go_sem,hc,hd,hs];rfl;kernel_rfl))
 (apply fqb;simp +decide only [go_sem]<;>rfl)
theorem b6h (t:Int):a4x t [] = []:=by unfold a4x;simp
theorem c9t (cc:Option (Option Nat)) (CR:List (List AV)) (t:Int):sem L.env Mf 10 [.agg [.nilslice,sl cc CR,.int .i64 t]] [] = some (.nilslice,[]):=by
 have hf:=fun H=>a05 (E:=L.env) (draw:=false) (call:=sem L.env Mf) (g:=24) (fs:=[]) (cs:=[]) (ar:=[.agg [.nilslice,sl cc CR,.int .i64 t]]) (H:=H) (by kernel_rfl) (by kernel_rfl) rfl (by simp +decide only [go_sem]<;>rfl) (c2c cc CR t) rfl
 have k1:sem L.env Mf 23 [.nilslice] [] = some (.nilslice,[]):=by
  (refine sv Tryz.f23 ?_;simp only [Tryz.f23,gS])
  (repeat first|simp only [ww]|(apply xa;simp +decide only [go_sem];rfl;kernel_rfl))
  (apply fqb;simp +decide only [go_sem]<;>rfl)
 have k2:sem L.env Mf 22 [.nilslice] [] = some (.nilslice,[]):=by
  (refine sv Tryz.f22 ?_;simp only [Tryz.f22,gS])
  (repeat first|simp only [ww]|(apply xa;simp +decide only [go_sem];rfl;kernel_rfl))
  (apply fqb;simp +decide only [go_sem]<;>rfl)
 have h1:=fun H=>a05 (E:=L.env) (draw:=false) (call:=sem L.env Mf) (g:=23) (fs:=[]) (cs:=[]) (ar:=[.nilslice]) (H:=H) (by kernel_rfl) (by kernel_rfl) rfl rfl k1 rfl
 have h2:=fun H=>a05 (E:=L.env) (draw:=false) (call:=sem L.env Mf) (g:=22) (fs:=[]) (cs:=[]) (ar:=[.nilslice]) (H:=H) (by kernel_rfl) (by kernel_rfl) rfl rfl k2 rfl
 (refine sv Tryz.f10 ?_;simp only [Tryz.f10,gS])
 (repeat first|simp only [ww]|(apply xa;simp +decide only [go_sem,hf,h1,h2];rfl;kernel_rfl))
 (apply fqb;simp +decide only [go_sem]<;>rfl)
theorem d7q (cc:Option (Option Nat)) (CR:List (List AV)) (T:Nat) (hT:T ≤ 4096):sem L.env Mf 11 [.agg [.nilslice,sl cc CR,.int .i64 T]] [] = some (.islice (a5m (fun _=>0) T) (some T),[]):=by
 obtain ⟨t,ht⟩:∃ t:Int,t = T:=⟨_,rfl⟩
 have hf:=fun H=>a05 (E:=L.env) (draw:=false) (call:=sem L.env Mf) (g:=24) (fs:=[]) (cs:=[]) (ar:=[.agg [.nilslice,sl cc CR,.int .i64 T]]) (H:=H) (by kernel_rfl) (by kernel_rfl) rfl (by simp +decide only [go_sem]<;>rfl) (c2c cc CR T) rfl
 have d1:¬ (T:Int) < 0:=by omega
 have d2:¬ (4096:Int) < T:=by omega
 have hmk:b9e L.env 3 (T:Int) (T:Int) = true:=a3i (by omega) (by decide +kernel)
 have hrz:=b7m T
 have hrf:=fun f=>a03 (a6m f T)
 have hrr:=fun f π=>a01 π (a6m f T)
 have hfz:=fun f d=>a0s 0 d (a6m f T)
 have hlT:=fun f=>a5y f T
 (refine sv Tryz.f11 ?_;simp only [Tryz.f11,gS])
 (repeat first|simp only [ww]|(apply xa;simp +decide only [go_sem,d1,d2,hmk,hrz,hf];rfl;kernel_rfl))
 refine a24 kp11_0 (fun N F H=>F = [(3,.slice 0 0 T (some T)),(19,.nilslice),(20,.int .i64 0),(21,.int .i64 0)] ∧ H = [some (.row 1 (a5m (fun _=>0) T))]) 0 ?_ ?_
 ·exact ⟨_,_,by (simp +decide only [go_sem,a02,a00,hrf,hrr]<;>rfl)<;>rfl,rfl,rfl⟩
 ·rintro N F H ⟨rfl,rfl⟩
  (repeat first|simp only [ww]|(apply xa;simp +decide only [go_sem];rfl;kernel_rfl))
  refine a0l (σ:=Nat) kp11_2 (fun q=>[(3,.slice 0 0 T (some T)),(6,.int .i64 q)]) (fun q=>[some (.row 1 (a5m (fun _=>0) T))]) (fun q=>T + 1 - q) (fun q=>1 ≤ q ∧ q ≤ T + 1) 1 ?_ ⟨by omega,by omega⟩ ?_
  ·(simp +decide only [go_sem,a02,a00,hrf,hrr]<;>rfl)<;>rfl
  ·rintro q ⟨hq1,hq2⟩
   by_cases hqT:q < T
   ·obtain ⟨j,rfl⟩:∃ j,q = j + 1:=⟨q - 1,by omega⟩
    have c3:((j + 1:Nat):Int) < T:=by omega
    have c4:j < T:=by omega
    have wq:=wI1 (n:=j + 1) (by omega)
    have wq1:IntKind.i64.wrap (((j + 1:Nat):Int) - 1) = (j:Nat):=by rw [w64 (by omega) (by omega)];omega
    have hg1:=a5z (f:=fun _=>0) hqT
    have hg2:=a5z (f:=fun _=>0) c4
    have hset:(a5m (fun _=>0) T).set (j + 1) [.int .i64 0] = a5m (fun _=>0) T:=by
     rw [b5t]
     exact a8h fun x _=>by split<;>rfl
    have w0:IntKind.i64.wrap (0 + 0) = 0:=by decide
    (repeat first|simp only [ww]|(apply xa;simp +decide only [go_sem,c3,c4,hqT,hg1,hg2,wq,wq1,w0,hset,hlT];rfl;kernel_rfl))
    refine a1m (j + 1 + 1) ?_ (by omega) ⟨by omega,by omega⟩
    (simp +decide only [go_sem,a02,a00,hrf,hrr]<;>rfl)<;>rfl
   ·have c3:¬ (q:Int) < T:=by omega
    have htk:(a5m (fun _=>0) T).take T = a5m (fun _=>0) T:=List.take_of_length_le (by rw [a5y];exact Nat.le_refl _)
    (repeat first|simp only [ww]|(apply xa;simp +decide only [go_sem,c3];rfl;kernel_rfl))
    (apply fqb;simp +decide only [go_sem,hlT,htk,hfz,hrr]<;>rfl)
end Go.MInst
