/- Part of a proof. No condition. -/
import Derived.Test.YtbmkmaobejlkgaaDoorKSr
import Derived.Test.YtbmkmaobejlkgaaDoorPcP
import Derived.Test.YtbmkmaobejlkgaaDoorAxF
set_option linter.unusedSimpArgs false
set_option linter.unusedVariables false
namespace Go.KInst
open Go.Proofs Go.Ax Go.Pc Go.Sort
set_option maxRecDepth 100000
set_option maxHeartbeats 2000000
theorem bk_54 (m:Nat) (k:List Nat) (J:Nat → Frm → Heap → Prop) (n:Nat) (Q:Post) (F:Frm) (H:Heap):bk 5 (lpJ m k J n (bk 4 Q)) (.exit 4) F H = Q .normal F H:=rfl
/-- slices.partitionOrdered. -/
theorem part_ok (n:Nat) (c:Option Nat) (d:Array Int) (rest:List (List AV)) (a b p:Nat) (hrest:FlatR rest) (hn:n = d.size) (hab:a + 1 < b) (hb:b ≤ n) (hn1:n ≤ 1000) (hp:p < n) :
 sem L.env Mf 84 [.slice 0 0 n c,.int .i64 a,.int .i64 b,.int .i64 p] [some (.row 1 (rwA d ++ rest))] = some (.tuple [.int .i64 (partition ltInt d a b p).1,.bool (partition ltInt d a b p).2.1],[some (.row 1 (rwA (partition ltInt d a b p).2.2 ++ rest))]):=by
 have hls:=fun d' H x y=>less_call (d:=d') H x y
 have w1:=wI1 (n:=a) (by omega)
 have w2:IntKind.i64.wrap ((b:Int) - 1) = ((b - 1:Nat):Int):=by rw [w64 (by omega) (by omega)];omega
 have s1:=rwA_get (d:=d) (rest:=rest) (i:=a) (by omega)
 have s2:=rwA_get (d:=d) (rest:=rest) (i:=p) (by omega)
 have s3:=rwA_swp (d:=d) (rest:=rest) (i:=a) (j:=p) (by omega) (by omega)
 obtain ⟨y,s4⟩:=rwA_get2 (d:=d) (rest:=rest) (i:=a) (j:=p) (x:=d[p]!) (by omega) (by omega)
 have s5:a < n:=by omega
 have s6:p < n:=by omega
 have s7:∀ i x,((rwA d ++ rest).set i x).length = (rwA d ++ rest).length:=fun i x=>List.length_set
 have s8:n ≤ (rwA d ++ rest).length:=by rw [List.length_append,rwA_len];omega
 have hpe:partition ltInt d a b p = if scanUp (fun x=>ltInt x (swp d a p)[a]!) (swp d a p) (b - 1) (a + 1) > scanDown (fun x=>!ltInt x (swp d a p)[a]!) (swp d a p) (scanUp (fun x=>ltInt x (swp d a p)[a]!) (swp d a p) (b - 1) (a + 1)) (b - 1) then (scanDown (fun x=>!ltInt x (swp d a p)[a]!) (swp d a p) (scanUp (fun x=>ltInt x (swp d a p)[a]!) (swp d a p) (b - 1) (a + 1)) (b - 1),true,swp (swp d a p) (scanDown (fun x=>!ltInt x (swp d a p)[a]!) (swp d a p) (scanUp (fun x=>ltInt x (swp d a p)[a]!) (swp d a p) (b - 1) (a + 1)) (b - 1)) a) else
  ((partLoop ltInt a (scanUp (fun x=>ltInt x (swp d a p)[a]!) (swp d a p) (b - 1) (a + 1) + 1) (scanDown (fun x=>!ltInt x (swp d a p)[a]!) (swp d a p) (scanUp (fun x=>ltInt x (swp d a p)[a]!) (swp d a p) (b - 1) (a + 1)) (b - 1) - 1) (swp (swp d a p) (scanUp (fun x=>ltInt x (swp d a p)[a]!) (swp d a p) (b - 1) (a + 1)) (scanDown (fun x=>!ltInt x (swp d a p)[a]!) (swp d a p) (scanUp (fun x=>ltInt x (swp d a p)[a]!) (swp d a p) (b - 1) (a + 1)) (b - 1)))).1,false,swp (partLoop ltInt a (scanUp (fun x=>ltInt x (swp d a p)[a]!) (swp d a p) (b - 1) (a + 1) + 1) (scanDown (fun x=>!ltInt x (swp d a p)[a]!) (swp d a p) (scanUp (fun x=>ltInt x (swp d a p)[a]!) (swp d a p) (b - 1) (a + 1)) (b - 1) - 1) (swp (swp d a p) (scanUp (fun x=>ltInt x (swp d a p)[a]!) (swp d a p) (b - 1) (a + 1)) (scanDown (fun x=>!ltInt x (swp d a p)[a]!) (swp d a p) (scanUp (fun x=>ltInt x (swp d a p)[a]!) (swp d a p) (b - 1) (a + 1)) (b - 1)))).2 (partLoop ltInt a (scanUp (fun x=>ltInt x (swp d a p)[a]!) (swp d a p) (b - 1) (a + 1) + 1) (scanDown (fun x=>!ltInt x (swp d a p)[a]!) (swp d a p) (scanUp (fun x=>ltInt x (swp d a p)[a]!) (swp d a p) (b - 1) (a + 1)) (b - 1) - 1) (swp (swp d a p) (scanUp (fun x=>ltInt x (swp d a p)[a]!) (swp d a p) (b - 1) (a + 1)) (scanDown (fun x=>!ltInt x (swp d a p)[a]!) (swp d a p) (scanUp (fun x=>ltInt x (swp d a p)[a]!) (swp d a p) (b - 1) (a + 1)) (b - 1)))).1 a):=rfl
 have he:(swp d a p).size = n:=by rw [Pc.swp_size];exact hn.symm
 (refine sv Tryd.f84 ?_;simp only [Tryd.f84,gS])
 (repeat first|simp only [ww]|(apply xa;simp +decide only [go_sem,w1,w2,s1,s2,s3,s4,s5,s6,s7,s8];rfl;kernel_rfl))
 generalize swp d a p = e at *
 clear s1 s2 s3 s4 s5 s6 s7 s8
 have f:=rwA_flatA (d:=e) hrest
 have hl:n ≤ (rwA e ++ rest).length:=by rw [List.length_append,rwA_len];omega
 refine xp_loop3 (σ:=Nat) kp84_0 (fun u=>[(0,.slice 0 0 n c),(1,.int .i64 a),(10,.int .i64 (u:Nat)),(11,.int .i64 ((b - 1):Nat))]) (fun u=>[some (.row 1 (rwA e ++ rest))]) (fun u=>(b - 1) + 2 - u) (fun u=>(a + 1) ≤ u ∧ u ≤ (b - 1) + 2 ∧ scanUp (fun x=>ltInt x e[a]!) e (b - 1) u = scanUp (fun x=>ltInt x e[a]!) e (b - 1) (a + 1)) ((a + 1)) ?_ ⟨by omega,by omega,rfl⟩ ?_
 ·(simp +decide only [go_sem,gcD_eq,gcIds_eq,refs_flatR f,renR_flat _ f]<;>rfl)<;>rfl
 ·rintro u ⟨u1,u2,hT⟩
  have h3:(u ≤ (b - 1) ∧ ltInt e[u]! e[a]! = true) ∨ (((u ≤ (b - 1)) ∧ ltInt e[u]! e[a]! = false) ∨ ¬ (u ≤ (b - 1))):=by
   by_cases h:u ≤ (b - 1)
   ·cases hh:ltInt e[u]! e[a]!<;>simp [h]
   ·exact .inr (.inr h)
  rcases h3 with ⟨h,h1⟩|h3
  ·have d1:(u:Int) ≤ ((b - 1):Nat):=by omega
   have ka:a < n:=by omega
   have kq:u < n:=by omega
   have ga:=rwA_get (d:=e) (rest:=rest) (i:=a) (by omega)
   have gq:=rwA_get (d:=e) (rest:=rest) (i:=u) (by omega)
   have w:=wI1 (n:=u) (by omega)
   (repeat first|simp only [ww]|(apply xa;simp +decide only [go_sem,d1,ka,kq,hl,ga,gq,hls,h1,w];rfl;kernel_rfl))
   refine lp_n (u + 1) ?_ (by omega) ⟨by omega,by omega,?_⟩
   ·(simp +decide only [go_sem,gcD_eq,gcIds_eq,refs_flatR f,renR_flat _ f]<;>rfl)<;>rfl
   ·rw [← hT]
    conv=>rhs;rw [scanUp_E]
    have hg:(decide (u ≤ (b - 1)) && (fun x=>ltInt x e[a]!) e[u]!) = true:=by simp [h,h1]
    rw [if_pos hg]
  ·have hst:(decide (u ≤ (b - 1)) && (fun x=>ltInt x e[a]!) e[u]!) = false:=by
    rcases h3 with ⟨h,h1⟩|h
    ·simp [h1]
    ·simp [h]
   have hu:scanUp (fun x=>ltInt x e[a]!) e (b - 1) (a + 1) = u:=by rw [← hT,scanUp_E,hst,if_neg (by simp)]
   have h4:(((u:Int) ≤ ((b - 1):Nat)) ∧ ltInt e[u]! e[a]! = false ∧ (rwA e ++ rest)[u]? = some [AV.int .i64 e[u]!] ∧ u < n ∧ a < n) ∨ ((¬ (u:Int) ≤ ((b - 1):Nat)) ∧ (0:Nat) < 1 ∧ (0:Nat) < 1 ∧ (0:Nat) < 1 ∧ (0:Nat) < 1):=by
    rcases h3 with ⟨h,h1⟩|h
    ·exact .inl ⟨by omega,h1,rwA_get (by omega),by omega,by omega⟩
    ·exact .inr ⟨by omega,by decide,by decide,by decide,by decide⟩
   have ga:=rwA_get (d:=e) (rest:=rest) (i:=a) (by omega)
   rcases h4 with ⟨d1,d2,d3,d4,d5⟩|⟨d1,d2,d3,d4,d5⟩
   all_goals
    (repeat first|simp only [ww]|(apply xa;simp +decide only [go_sem,d1,d2,d3,d4,d5,hl,ga,hls];rfl;kernel_rfl))
    have f:=rwA_flatA (d:=e) hrest
    have hl:n ≤ (rwA e ++ rest).length:=by rw [List.length_append,rwA_len];omega
    refine xp_loop3 (σ:=Nat) kp84_2 (fun v=>[(0,.slice 0 0 n c),(1,.int .i64 a),(10,.int .i64 (u:Nat)),(11,.int .i64 (v:Nat))]) (fun v=>[some (.row 1 (rwA e ++ rest))]) (fun v=>v) (fun v=>v ≤ (b - 1) ∧ u ≤ v + 2 ∧ scanDown (fun x=>!ltInt x e[a]!) e u v = scanDown (fun x=>!ltInt x e[a]!) e u (b - 1)) ((b - 1)) ?_ ⟨by omega,by omega,rfl⟩ ?_
    ·(simp +decide only [go_sem,gcD_eq,gcIds_eq,refs_flatR f,renR_flat _ f]<;>rfl)<;>rfl
    ·rintro v ⟨v1,v2,hT⟩
     have h3:(u ≤ v ∧ ltInt e[v]! e[a]! = false) ∨ (((u ≤ v) ∧ ltInt e[v]! e[a]! = true) ∨ ¬ (u ≤ v)):=by
      by_cases h:u ≤ v
      ·cases hh:ltInt e[v]! e[a]!<;>simp [h]
      ·exact .inr (.inr h)
     rcases h3 with ⟨h,h1⟩|h3
     ·have d1:((u:Nat):Int) ≤ v:=by omega
      have ka:a < n:=by omega
      have kq:v < n:=by omega
      have ga:=rwA_get (d:=e) (rest:=rest) (i:=a) (by omega)
      have gq:=rwA_get (d:=e) (rest:=rest) (i:=v) (by omega)
      have w:IntKind.i64.wrap ((v:Int) - 1) = ((v - 1:Nat):Int):=by rw [w64 (by omega) (by omega)];omega
      (repeat first|simp only [ww]|(apply xa;simp +decide only [go_sem,d1,ka,kq,hl,ga,gq,hls,h1,w];rfl;kernel_rfl))
      refine lp_n (v - 1) ?_ (by omega) ⟨by omega,by omega,?_⟩
      ·(simp +decide only [go_sem,gcD_eq,gcIds_eq,refs_flatR f,renR_flat _ f]<;>rfl)<;>rfl
      ·rw [← hT]
       obtain ⟨r,rfl⟩:∃ r,v = r + 1:=⟨v - 1,by omega⟩
       have hg:(decide (u ≤ (r + 1)) && (fun x=>!ltInt x e[a]!) e[(r + 1)]!) = true:=by simp [h,h1]
       rw [scanDown_S,if_pos hg];rfl
     ·have hst:(decide (u ≤ v) && (fun x=>!ltInt x e[a]!) e[v]!) = false:=by
       rcases h3 with ⟨h,h1⟩|h
       ·simp [h1]
       ·simp [h]
      have hv:scanDown (fun x=>!ltInt x e[a]!) e u (b - 1) = v:=by
       rw [← hT]
       cases v with
       | zero=>rfl
       | succ r=>rw [scanDown_S,hst,if_neg (by simp)]
      have h4:((((u:Nat):Int) ≤ v) ∧ ltInt e[v]! e[a]! = true ∧ (rwA e ++ rest)[v]? = some [AV.int .i64 e[v]!] ∧ v < n ∧ a < n) ∨ ((¬ ((u:Nat):Int) ≤ v) ∧ (0:Nat) < 1 ∧ (0:Nat) < 1 ∧ (0:Nat) < 1 ∧ (0:Nat) < 1):=by
       rcases h3 with ⟨h,h1⟩|h
       ·exact .inl ⟨by omega,h1,rwA_get (by omega),by omega,by omega⟩
       ·exact .inr ⟨by omega,by decide,by decide,by decide,by decide⟩
      have ga:=rwA_get (d:=e) (rest:=rest) (i:=a) (by omega)
      rcases h4 with ⟨d1,d2,d3,d4,d5⟩|⟨d1,d2,d3,d4,d5⟩
      all_goals
       rw [hpe,hu,hv]
       by_cases hij:u > v
       ·have c2:(v:Int) < u:=by omega
        rw [if_pos hij]
        have s1:=rwA_get (d:=e) (rest:=rest) (i:=v) (by omega)
        have s2:=rwA_get (d:=e) (rest:=rest) (i:=a) (by omega)
        have s3:=rwA_swp (d:=e) (rest:=rest) (i:=v) (j:=a) (by omega) (by omega)
        obtain ⟨y,s4⟩:=rwA_get2 (d:=e) (rest:=rest) (i:=v) (j:=a) (x:=e[a]!) (by omega) (by omega)
        have s5:v < n:=by omega
        have s6:a < n:=by omega
        have s7:∀ i x,((rwA e ++ rest).set i x).length = (rwA e ++ rest).length:=fun i x=>List.length_set
        have s8:n ≤ (rwA e ++ rest).length:=by rw [List.length_append,rwA_len];omega
        (repeat first|simp only [ww]|(apply xa;simp +decide only [go_sem,d1,d2,d3,d4,d5,hl,ga,hls,c2,s1,s2,s3,s4,s5,s6,s7,s8];rfl;kernel_rfl))
        have f2:=rwA_flatA (d:=swp e v a) hrest
        (apply fqb;simp +decide only [go_sem,renR_flat _ f2]<;>rfl)
       ·have c2:¬ (v:Int) < u:=by omega
        rw [if_neg hij]
        have w3:=wI1 (n:=u) (by omega)
        have w4:IntKind.i64.wrap ((v:Int) - 1) = ((v - 1:Nat):Int):=by rw [w64 (by omega) (by omega)];omega
        have s1:=rwA_get (d:=e) (rest:=rest) (i:=u) (by omega)
        have s2:=rwA_get (d:=e) (rest:=rest) (i:=v) (by omega)
        have s3:=rwA_swp (d:=e) (rest:=rest) (i:=u) (j:=v) (by omega) (by omega)
        obtain ⟨y,s4⟩:=rwA_get2 (d:=e) (rest:=rest) (i:=u) (j:=v) (x:=e[v]!) (by omega) (by omega)
        have s5:u < n:=by omega
        have s6:v < n:=by omega
        have s7:∀ i x,((rwA e ++ rest).set i x).length = (rwA e ++ rest).length:=fun i x=>List.length_set
        have s8:n ≤ (rwA e ++ rest).length:=by rw [List.length_append,rwA_len];omega
        (repeat first|simp only [ww]|(apply xa;simp +decide only [go_sem,d1,d2,d3,d4,d5,hl,ga,hls,c2,w3,w4,s1,s2,s3,s4,s5,s6,s7,s8];rfl;kernel_rfl))
        refine xp_lp kp84_4 (fun N F H=>∃ (i j:Nat) (x:Array Int),N = j + 2 - i ∧ x.size = n ∧ F = [(0,.slice 0 0 n c),(1,.int .i64 a),(10,.int .i64 i),(11,.int .i64 j)] ∧ H = [some (.row 1 (rwA x ++ rest))] ∧ a < i ∧ i ≤ n ∧ j < n ∧ i ≤ j + 2 ∧ partLoop ltInt a i j x = partLoop ltInt a (u + 1) (v - 1) (swp e u v)) (v - 1 + 2 - (u + 1)) ?_ ?_
        ·refine ⟨_,_,?_,u + 1,v - 1,_,rfl,by rw [Pc.swp_size];exact he,rfl,rfl,by omega,by omega,by omega,by omega,rfl⟩
         have f2:=rwA_flatA (d:=swp e u v) hrest
         (simp +decide only [go_sem,gcD_eq,gcIds_eq,refs_flatR f2,renR_flat _ f2]<;>rfl)<;>rfl
        ·generalize swp e u v = z
         clear hpe hu hv
         generalize u + 1 = u0
         generalize v - 1 = v0
         rintro N F H ⟨i,j,e,rfl,he,rfl,rfl,hi1,hi2',hj1,hij',hR⟩
         (repeat first|simp only [ww]|(apply xa;simp +decide only [go_sem];rfl;kernel_rfl))
         have f:=rwA_flatA (d:=e) hrest
         have hl:n ≤ (rwA e ++ rest).length:=by rw [List.length_append,rwA_len];omega
         refine xp_loop3 (σ:=Nat) kp84_6 (fun u=>[(0,.slice 0 0 n c),(1,.int .i64 a),(10,.int .i64 (u:Nat)),(11,.int .i64 (j:Nat))]) (fun u=>[some (.row 1 (rwA e ++ rest))]) (fun u=>j + 2 - u) (fun u=>i ≤ u ∧ u ≤ j + 2 ∧ scanUp (fun x=>ltInt x e[a]!) e j u = scanUp (fun x=>ltInt x e[a]!) e j i) (i) ?_ ⟨by omega,by omega,rfl⟩ ?_
         ·(simp +decide only [go_sem,gcD_eq,gcIds_eq,refs_flatR f,renR_flat _ f]<;>rfl)<;>rfl
         ·rintro u ⟨u1,u2,hT⟩
          have h3:(u ≤ j ∧ ltInt e[u]! e[a]! = true) ∨ (((u ≤ j) ∧ ltInt e[u]! e[a]! = false) ∨ ¬ (u ≤ j)):=by
           by_cases h:u ≤ j
           ·cases hh:ltInt e[u]! e[a]!<;>simp [h]
           ·exact .inr (.inr h)
          rcases h3 with ⟨h,h1⟩|h3
          ·have d1:(u:Int) ≤ (j:Nat):=by omega
           have ka:a < n:=by omega
           have kq:u < n:=by omega
           have ga:=rwA_get (d:=e) (rest:=rest) (i:=a) (by omega)
           have gq:=rwA_get (d:=e) (rest:=rest) (i:=u) (by omega)
           have w:=wI1 (n:=u) (by omega)
           (repeat first|simp only [ww]|(apply xa;simp +decide only [go_sem,d1,ka,kq,hl,ga,gq,hls,h1,w];rfl;kernel_rfl))
           refine lp_n (u + 1) ?_ (by omega) ⟨by omega,by omega,?_⟩
           ·(simp +decide only [go_sem,gcD_eq,gcIds_eq,refs_flatR f,renR_flat _ f]<;>rfl)<;>rfl
           ·rw [← hT]
            conv=>rhs;rw [scanUp_E]
            have hg:(decide (u ≤ j) && (fun x=>ltInt x e[a]!) e[u]!) = true:=by simp [h,h1]
            rw [if_pos hg]
          ·have hst:(decide (u ≤ j) && (fun x=>ltInt x e[a]!) e[u]!) = false:=by
            rcases h3 with ⟨h,h1⟩|h
            ·simp [h1]
            ·simp [h]
           have hu:scanUp (fun x=>ltInt x e[a]!) e j i = u:=by rw [← hT,scanUp_E,hst,if_neg (by simp)]
           have h4:(((u:Int) ≤ (j:Nat)) ∧ ltInt e[u]! e[a]! = false ∧ (rwA e ++ rest)[u]? = some [AV.int .i64 e[u]!] ∧ u < n ∧ a < n) ∨ ((¬ (u:Int) ≤ (j:Nat)) ∧ (0:Nat) < 1 ∧ (0:Nat) < 1 ∧ (0:Nat) < 1 ∧ (0:Nat) < 1):=by
            rcases h3 with ⟨h,h1⟩|h
            ·exact .inl ⟨by omega,h1,rwA_get (by omega),by omega,by omega⟩
            ·exact .inr ⟨by omega,by decide,by decide,by decide,by decide⟩
           have ga:=rwA_get (d:=e) (rest:=rest) (i:=a) (by omega)
           rcases h4 with ⟨d1,d2,d3,d4,d5⟩|⟨d1,d2,d3,d4,d5⟩
           all_goals
            (repeat first|simp only [ww]|(apply xa;simp +decide only [go_sem,d1,d2,d3,d4,d5,hl,ga,hls];rfl;kernel_rfl))
            have f:=rwA_flatA (d:=e) hrest
            have hl:n ≤ (rwA e ++ rest).length:=by rw [List.length_append,rwA_len];omega
            refine xp_loop3 (σ:=Nat) kp84_8 (fun v=>[(0,.slice 0 0 n c),(1,.int .i64 a),(10,.int .i64 (u:Nat)),(11,.int .i64 (v:Nat))]) (fun v=>[some (.row 1 (rwA e ++ rest))]) (fun v=>v) (fun v=>v ≤ j ∧ u ≤ v + 2 ∧ scanDown (fun x=>!ltInt x e[a]!) e u v = scanDown (fun x=>!ltInt x e[a]!) e u j) (j) ?_ ⟨by omega,by omega,rfl⟩ ?_
            ·(simp +decide only [go_sem,gcD_eq,gcIds_eq,refs_flatR f,renR_flat _ f]<;>rfl)<;>rfl
            ·rintro v ⟨v1,v2,hT⟩
             have h3:(u ≤ v ∧ ltInt e[v]! e[a]! = false) ∨ (((u ≤ v) ∧ ltInt e[v]! e[a]! = true) ∨ ¬ (u ≤ v)):=by
              by_cases h:u ≤ v
              ·cases hh:ltInt e[v]! e[a]!<;>simp [h]
              ·exact .inr (.inr h)
             rcases h3 with ⟨h,h1⟩|h3
             ·have d1:((u:Nat):Int) ≤ v:=by omega
              have ka:a < n:=by omega
              have kq:v < n:=by omega
              have ga:=rwA_get (d:=e) (rest:=rest) (i:=a) (by omega)
              have gq:=rwA_get (d:=e) (rest:=rest) (i:=v) (by omega)
              have w:IntKind.i64.wrap ((v:Int) - 1) = ((v - 1:Nat):Int):=by rw [w64 (by omega) (by omega)];omega
              (repeat first|simp only [ww]|(apply xa;simp +decide only [go_sem,d1,ka,kq,hl,ga,gq,hls,h1,w];rfl;kernel_rfl))
              refine lp_n (v - 1) ?_ (by omega) ⟨by omega,by omega,?_⟩
              ·(simp +decide only [go_sem,gcD_eq,gcIds_eq,refs_flatR f,renR_flat _ f]<;>rfl)<;>rfl
              ·rw [← hT]
               obtain ⟨r,rfl⟩:∃ r,v = r + 1:=⟨v - 1,by omega⟩
               have hg:(decide (u ≤ (r + 1)) && (fun x=>!ltInt x e[a]!) e[(r + 1)]!) = true:=by simp [h,h1]
               rw [scanDown_S,if_pos hg];rfl
             ·have hst:(decide (u ≤ v) && (fun x=>!ltInt x e[a]!) e[v]!) = false:=by
               rcases h3 with ⟨h,h1⟩|h
               ·simp [h1]
               ·simp [h]
              have hv:scanDown (fun x=>!ltInt x e[a]!) e u j = v:=by
               rw [← hT]
               cases v with
               | zero=>rfl
               | succ r=>rw [scanDown_S,hst,if_neg (by simp)]
              have h4:((((u:Nat):Int) ≤ v) ∧ ltInt e[v]! e[a]! = true ∧ (rwA e ++ rest)[v]? = some [AV.int .i64 e[v]!] ∧ v < n ∧ a < n) ∨ ((¬ ((u:Nat):Int) ≤ v) ∧ (0:Nat) < 1 ∧ (0:Nat) < 1 ∧ (0:Nat) < 1 ∧ (0:Nat) < 1):=by
               rcases h3 with ⟨h,h1⟩|h
               ·exact .inl ⟨by omega,h1,rwA_get (by omega),by omega,by omega⟩
               ·exact .inr ⟨by omega,by decide,by decide,by decide,by decide⟩
              have ga:=rwA_get (d:=e) (rest:=rest) (i:=a) (by omega)
              rcases h4 with ⟨d1,d2,d3,d4,d5⟩|⟨d1,d2,d3,d4,d5⟩
              all_goals
               rw [partLoop_E,hu,hv] at hR
               by_cases hij:u > v
               ·have c2:(v:Int) < u:=by omega
                rw [if_pos hij] at hR
                have s1:=rwA_get (d:=e) (rest:=rest) (i:=v) (by omega)
                have s2:=rwA_get (d:=e) (rest:=rest) (i:=a) (by omega)
                have s3:=rwA_swp (d:=e) (rest:=rest) (i:=v) (j:=a) (by omega) (by omega)
                obtain ⟨y,s4⟩:=rwA_get2 (d:=e) (rest:=rest) (i:=v) (j:=a) (x:=e[a]!) (by omega) (by omega)
                have s5:v < n:=by omega
                have s6:a < n:=by omega
                have s7:∀ i x,((rwA e ++ rest).set i x).length = (rwA e ++ rest).length:=fun i x=>List.length_set
                have s8:n ≤ (rwA e ++ rest).length:=by rw [List.length_append,rwA_len];omega
                (repeat first|simp only [ww]|(apply xa;simp +decide only [go_sem,d1,d2,d3,d4,d5,hl,ga,hls,c2];rfl;kernel_rfl))
                rw [bk_54]
                (repeat first|simp only [ww]|(apply xa;simp +decide only [go_sem,s1,s2,s3,s4,s5,s6,s7,s8];rfl;kernel_rfl))
                rw [← hR]
                have f2:=rwA_flatA (d:=swp e v a) hrest
                (apply fqb;simp +decide only [go_sem,renR_flat _ f2]<;>rfl)
               ·have c2:¬ (v:Int) < u:=by omega
                rw [if_neg hij,if_pos (by omega)] at hR
                have w3:=wI1 (n:=u) (by omega)
                have w4:IntKind.i64.wrap ((v:Int) - 1) = ((v - 1:Nat):Int):=by rw [w64 (by omega) (by omega)];omega
                have s1:=rwA_get (d:=e) (rest:=rest) (i:=u) (by omega)
                have s2:=rwA_get (d:=e) (rest:=rest) (i:=v) (by omega)
                have s3:=rwA_swp (d:=e) (rest:=rest) (i:=u) (j:=v) (by omega) (by omega)
                obtain ⟨y,s4⟩:=rwA_get2 (d:=e) (rest:=rest) (i:=u) (j:=v) (x:=e[v]!) (by omega) (by omega)
                have s5:u < n:=by omega
                have s6:v < n:=by omega
                have s7:∀ i x,((rwA e ++ rest).set i x).length = (rwA e ++ rest).length:=fun i x=>List.length_set
                have s8:n ≤ (rwA e ++ rest).length:=by rw [List.length_append,rwA_len];omega
                (repeat first|simp only [ww]|(apply xa;simp +decide only [go_sem,d1,d2,d3,d4,d5,hl,ga,hls,c2,w3,w4,s1,s2,s3,s4,s5,s6,s7,s8];rfl;kernel_rfl))
                refine lpJ_n (v - 1 + 2 - (u + 1)) (by omega) ⟨_,_,?_,u + 1,v - 1,_,rfl,by rw [Pc.swp_size];exact he,rfl,rfl,by omega,by omega,by omega,by omega,hR⟩
                have f2:=rwA_flatA (d:=swp e u v) hrest
                (simp +decide only [go_sem,gcD_eq,gcIds_eq,refs_flatR f2,renR_flat _ f2]<;>rfl)<;>rfl
theorem scanSorted_E (d:Array Int) (b i:Nat):scanSorted ltInt d b i = if (decide (i < b) && !ltInt d[i]! d[i - 1]!) = true then scanSorted ltInt d b (i + 1) else i:=by
 conv=>lhs;unfold scanSorted
theorem shiftUp_E (b j:Nat) (d:Array Int):shiftUp ltInt b j d = if j < b then (if !ltInt d[j]! d[j - 1]! then d else shiftUp ltInt b (j + 1) (swp d j (j - 1))) else d:=by
 conv=>lhs;unfold shiftUp
theorem bk_54s {x:Cx} {y:Code} (m:Nat) (k:List Nat) (J:Nat → Frm → Heap → Prop) (n:Nat) (Q:Post) (F:Frm) (H:Heap):bk 5 (sq x y (lpJ m k J n (bk 4 Q))) (.exit 4) F H = Q .normal F H:=rfl
/-- slices.partialInsertionSortOrdered. -/
theorem pins_ok (n:Nat) (c:Option Nat) (d:Array Int) (rest:List (List AV)) (a b:Nat) (hrest:FlatR rest) (hn:n = d.size) (hab:a + 1 < b) (hb:b ≤ n) (hn1:n ≤ 1000) :
 sem L.env Mf 81 [.slice 0 0 n c,.int .i64 a,.int .i64 b] [some (.row 1 (rwA d ++ rest))] = some (.bool (partialInsertionSort ltInt d a b).2,[some (.row 1 (rwA (partialInsertionSort ltInt d a b).1 ++ rest))]):=by
 have hls:=fun d' H x y=>less_call (d:=d') H x y
 have w1:=wI1 (n:=a) (by omega)
 (refine sv Tryd.f81 ?_;simp only [Tryd.f81,gS])
 (repeat first|simp only [ww]|(apply xa;simp +decide only [go_sem,w1];rfl;kernel_rfl))
 refine xp_lp kp81_0 (fun N F H=>∃ (s i:Nat) (e:Array Int),N = s ∧ s ≤ 5 ∧ e.size = n ∧ F = [(0,.slice 0 0 n c),(1,.int .i64 a),(2,.int .i64 b),(7,.int .i64 i),(8,.int .i64 ((5 - s:Nat):Int))] ∧ H = [some (.row 1 (rwA e ++ rest))] ∧ a < i ∧ i ≤ b ∧ partialIns ltInt a b s i e = partialInsertionSort ltInt d a b) 5 ?_ ?_
 ·have f:=rwA_flatA (d:=d) hrest
  refine ⟨_,_,?_,5,a + 1,d,rfl,by omega,hn.symm,rfl,rfl,by omega,by omega,rfl⟩
  (simp +decide only [go_sem,gcD_eq,gcIds_eq,refs_flatR f,renR_flat _ f]<;>rfl)<;>rfl
 ·rintro N F H ⟨s,i,e,rfl,hs5,he,rfl,rfl,hi1,hi2,hR⟩
  have f:=rwA_flatA (d:=e) hrest
  cases N with
  | zero=>
   have d1:¬ ((5 - 0:Nat):Int) < 5:=by omega
   have hR:(e,false) = partialInsertionSort ltInt d a b:=hR
   rw [← hR]
   (repeat first|simp only [ww]|(apply xa;simp +decide only [go_sem,d1];rfl;kernel_rfl))
   (apply fqb;simp +decide only [go_sem,renR_flat _ f]<;>rfl)
  | succ s=>
   have d1:((5 - (s + 1):Nat):Int) < 5:=by omega
   have w8:IntKind.i64.wrap (((5 - (s + 1):Nat):Int) + 1) = ((5 - s:Nat):Int):=by rw [w64 (by omega) (by omega)];omega
   (repeat first|simp only [ww]|(apply xa;simp +decide only [go_sem,d1];rfl;kernel_rfl))
   have hl:n ≤ (rwA e ++ rest).length:=by rw [List.length_append,rwA_len];omega
   refine xp_loop3 (σ:=Nat) kp81_2 (fun u=>[(0,.slice 0 0 n c),(1,.int .i64 a),(2,.int .i64 b),(7,.int .i64 (u:Nat)),(8,.int .i64 ((5 - (s + 1):Nat):Int))]) (fun q=>[some (.row 1 (rwA e ++ rest))]) (fun q=>b - q) (fun q=>i ≤ q ∧ q ≤ b ∧ scanSorted ltInt e b q = scanSorted ltInt e b i) i ?_ ⟨by omega,by omega,rfl⟩ ?_
   ·(simp +decide only [go_sem,gcD_eq,gcIds_eq,refs_flatR f,renR_flat _ f]<;>rfl)<;>rfl
   ·rintro u ⟨u1,u2,hT⟩
    have wu:=wI1 (n:=u) (by omega)
    have wu1:IntKind.i64.wrap ((u:Int) - 1) = ((u - 1:Nat):Int):=by rw [w64 (by omega) (by omega)];omega
    by_cases hub:u < b
    ·have d2:(u:Int) < b:=by omega
     have ku:u < n:=by omega
     have kv:u - 1 < n:=by omega
     have gu:=rwA_get (d:=e) (rest:=rest) (i:=u) (by omega)
     have gv:=rwA_get (d:=e) (rest:=rest) (i:=u - 1) (by omega)
     cases hlt:ltInt e[u]! e[u - 1]! with
     | false=>
      (repeat first|simp only [ww]|(apply xa;simp +decide only [go_sem,d2,ku,kv,hl,gu,gv,hls,hlt,wu,wu1];rfl;kernel_rfl))
      refine lp_n (u + 1) ?_ (by omega) ⟨by omega,by omega,?_⟩
      ·(simp +decide only [go_sem,gcD_eq,gcIds_eq,refs_flatR f,renR_flat _ f]<;>rfl)<;>rfl
      ·rw [← hT,scanSorted_E e b u,if_pos (by simp [hub,hlt])]
     | true=>
      have hu:scanSorted ltInt e b i = u:=by rw [← hT,scanSorted_E,if_neg (by simp [hlt])]
      have c1:¬ ((u:Int) = b):=by omega
      have wb:IntKind.i64.wrap ((b:Int) - a) = ((b - a:Nat):Int):=by rw [w64 (by omega) (by omega)];omega
      have wua:IntKind.i64.wrap ((u:Int) - a) = ((u - a:Nat):Int):=by rw [w64 (by omega) (by omega)];omega
      have wb2:IntKind.i64.wrap ((b:Int) - u) = ((b - u:Nat):Int):=by rw [w64 (by omega) (by omega)];omega
      unfold partialIns at hR
      simp only [hu] at hR
      rw [if_neg (by omega)] at hR
      by_cases h50:b - a < 50
      ·have c2:((b - a:Nat):Int) < 50:=by omega
       rw [if_pos h50] at hR
       rw [← hR]
       (repeat first|simp only [ww]|(apply xa;simp +decide only [go_sem,d2,ku,kv,hl,gu,gv,hls,hlt,wu1,c1,wb,c2];rfl;kernel_rfl))
       (apply fqb;simp +decide only [go_sem,renR_flat _ f]<;>rfl)
      ·have c2:¬ ((b - a:Nat):Int) < 50:=by omega
       rw [if_neg h50] at hR
       have s1:=rwA_get (d:=e) (rest:=rest) (i:=u) (by omega)
       have s2:=rwA_get (d:=e) (rest:=rest) (i:=(u - 1)) (by omega)
       have s3:=rwA_swp (d:=e) (rest:=rest) (i:=u) (j:=(u - 1)) (by omega) (by omega)
       obtain ⟨y,s4⟩:=rwA_get2 (d:=e) (rest:=rest) (i:=u) (j:=(u - 1)) (x:=e[(u - 1)]!) (by omega) (by omega)
       have s5:u < n:=by omega
       have s6:(u - 1) < n:=by omega
       have s7:∀ i x,((rwA e ++ rest).set i x).length = (rwA e ++ rest).length:=fun i x=>List.length_set
       have s8:n ≤ (rwA e ++ rest).length:=by rw [List.length_append,rwA_len];omega
       by_cases h2:u - a ≥ 2
       ·have c3:(2:Int) ≤ ((u - a:Nat):Int):=by omega
        rw [if_pos h2] at hR
        (repeat first|simp only [ww]|(apply xa;simp +decide only [go_sem,d2,hl,hls,hlt,wu1,c1,wb,c2,wua,c3,s1,s2,s3,s4,s5,s6,s7,s8];rfl;kernel_rfl))
        have hz:(swp e u (u - 1)).size = n:=by rw [Pc.swp_size];exact he
        have f1:=rwA_flatA (d:=swp e u (u - 1)) hrest
        refine xp_lp kp81_4 (fun N F H=>∃ (k:Nat) (g:Array Int),N = k ∧ g.size = n ∧ F = [(0,.slice 0 0 n c),(1,.int .i64 a),(2,.int .i64 b),(7,.int .i64 (u:Nat)),(8,.int .i64 ((5 - (s + 1):Nat):Int)),(9,.int .i64 (k:Nat))] ∧ H = [some (.row 1 (rwA g ++ rest))] ∧ k < n ∧ shiftDown ltInt k g = shiftDown ltInt (u - 1) (swp e u (u - 1))) (u - 1) ?_ ?_
        ·refine ⟨_,_,?_,u - 1,swp e u (u - 1),rfl,hz,rfl,rfl,by omega,rfl⟩
         (simp +decide only [go_sem,gcD_eq,gcIds_eq,refs_flatR f1,renR_flat _ f1]<;>rfl)<;>rfl
        ·clear f1 hz s1 s2 s3 s4 s5 s6 s7 s8
         generalize swp e u (u - 1) = z at hR
         rintro N F H ⟨k,m,rfl,hm,rfl,rfl,hk1,hS⟩
         have f3:=rwA_flatA (d:=m) hrest
         cases N with
         | zero=>
          have d3:¬ (1:Int) ≤ ((0:Nat):Int):=by omega
          have hS:m = shiftDown ltInt (u - 1) z:=hS
          rw [← hS] at hR
          by_cases h6:b - u ≥ 2
          ·have c6:(2:Int) ≤ ((b - u:Nat):Int):=by omega
           have hR6:partialIns ltInt a b s u (shiftUp ltInt b (u + 1) m) = partialInsertionSort ltInt d a b:=by rw [← hR,if_pos h6]
           (repeat first|simp only [ww]|(apply xa;simp +decide only [go_sem,d3,wb2,c6,wu];rfl;kernel_rfl))
           refine xp_lp kp81_6 (fun N F H=>∃ (k:Nat) (g:Array Int),N = b + 1 - k ∧ g.size = n ∧ F = [(0,.slice 0 0 n c),(1,.int .i64 a),(2,.int .i64 b),(7,.int .i64 (u:Nat)),(8,.int .i64 ((5 - (s + 1):Nat):Int)),(10,.int .i64 (k:Nat))] ∧ H = [some (.row 1 (rwA g ++ rest))] ∧ u < k ∧ k ≤ b ∧ shiftUp ltInt b k g = shiftUp ltInt b (u + 1) m) (b + 1 - (u + 1)) ?_ ?_
           ·have f2:=rwA_flatA (d:=m) hrest
            refine ⟨_,_,?_,u + 1,m,rfl,hm,rfl,rfl,by omega,by omega,rfl⟩
            (simp +decide only [go_sem,gcD_eq,gcIds_eq,refs_flatR f2,renR_flat _ f2]<;>rfl)<;>rfl
           ·rintro N F H ⟨k,g,rfl,hg,rfl,rfl,hk1,hk2,hS⟩
            have f3:=rwA_flatA (d:=g) hrest
            have wk1:=wI1 (n:=k) (by omega)
            have wk2:IntKind.i64.wrap ((k:Int) - 1) = ((k - 1:Nat):Int):=by rw [w64 (by omega) (by omega)];omega
            by_cases hkb:k < b
            ·have d1:(k:Int) < b:=by omega
             have s1:=rwA_get (d:=g) (rest:=rest) (i:=k) (by omega)
             have s2:=rwA_get (d:=g) (rest:=rest) (i:=(k - 1)) (by omega)
             have s3:=rwA_swp (d:=g) (rest:=rest) (i:=k) (j:=(k - 1)) (by omega) (by omega)
             obtain ⟨y,s4⟩:=rwA_get2 (d:=g) (rest:=rest) (i:=k) (j:=(k - 1)) (x:=g[(k - 1)]!) (by omega) (by omega)
             have s5:k < n:=by omega
             have s6:(k - 1) < n:=by omega
             have s7:∀ i x,((rwA g ++ rest).set i x).length = (rwA g ++ rest).length:=fun i x=>List.length_set
             have s8:n ≤ (rwA g ++ rest).length:=by rw [List.length_append,rwA_len];omega
             rw [shiftUp_E,if_pos hkb] at hS
             cases hlt:ltInt g[k]! g[k - 1]! with
             | true=>
              rw [if_neg (by simp [hlt])] at hS
              (repeat first|simp only [ww]|(apply xa;simp +decide only [go_sem,d1,wk1,wk2,hls,hlt,s1,s2,s3,s4,s5,s6,s7,s8];rfl;kernel_rfl))
              refine lpJ_n (b + 1 - (k + 1)) (by omega) ⟨_,_,?_,k + 1,_,rfl,by rw [Pc.swp_size];exact hg,rfl,rfl,by omega,by omega,hS⟩
              have f4:=rwA_flatA (d:=swp g k (k - 1)) hrest
              (simp +decide only [go_sem,gcD_eq,gcIds_eq,refs_flatR f4,renR_flat _ f4]<;>rfl)<;>rfl
             | false=>
              rw [if_pos (by simp [hlt])] at hS
              rw [← hS] at hR6
              (repeat first|simp only [ww]|(apply xa;simp +decide only [go_sem,d1,wk1,wk2,hls,hlt,s1,s2,s3,s4,s5,s6,s7,s8,w8];rfl;kernel_rfl))
              refine lpJ_n s (by omega) ⟨_,_,?_,s,u,g,rfl,by omega,hg,rfl,rfl,by omega,by omega,hR6⟩
              (simp +decide only [go_sem,gcD_eq,gcIds_eq,refs_flatR f3,renR_flat _ f3]<;>rfl)<;>rfl
            ·have d1:¬ (k:Int) < b:=by omega
             rw [shiftUp_E,if_neg hkb] at hS
             rw [← hS] at hR6
             (repeat first|simp only [ww]|(apply xa;simp +decide only [go_sem,d1,w8];rfl;kernel_rfl))
             refine lpJ_n s (by omega) ⟨_,_,?_,s,u,g,rfl,by omega,hg,rfl,rfl,by omega,by omega,hR6⟩
             (simp +decide only [go_sem,gcD_eq,gcIds_eq,refs_flatR f3,renR_flat _ f3]<;>rfl)<;>rfl
          ·have c6:¬ (2:Int) ≤ ((b - u:Nat):Int):=by omega
           rw [if_neg h6] at hR
           (repeat first|simp only [ww]|(apply xa;simp +decide only [go_sem,d3,wb2,c6,w8];rfl;kernel_rfl))
           refine lpJ_n s (by omega) ⟨_,_,?_,s,u,m,rfl,by omega,hm,rfl,rfl,by omega,by omega,hR⟩
           have f2:=rwA_flatA (d:=m) hrest
           (simp +decide only [go_sem,gcD_eq,gcIds_eq,refs_flatR f2,renR_flat _ f2]<;>rfl)<;>rfl
         | succ k=>
          have d3:(1:Int) ≤ ((k + 1:Nat):Int):=by omega
          have wk:IntKind.i64.wrap (((k + 1:Nat):Int) - 1) = (k:Nat):=by rw [w64 (by omega) (by omega)];omega
          have hS:(if !ltInt m[k + 1]! m[k]! then m else shiftDown ltInt k (swp m (k + 1) k)) = shiftDown ltInt (u - 1) z:=hS
          have s1:=rwA_get (d:=m) (rest:=rest) (i:=(k + 1)) (by omega)
          have s2:=rwA_get (d:=m) (rest:=rest) (i:=k) (by omega)
          have s3:=rwA_swp (d:=m) (rest:=rest) (i:=(k + 1)) (j:=k) (by omega) (by omega)
          obtain ⟨y,s4⟩:=rwA_get2 (d:=m) (rest:=rest) (i:=(k + 1)) (j:=k) (x:=m[k]!) (by omega) (by omega)
          have s5:(k + 1) < n:=by omega
          have s6:k < n:=by omega
          have s7:∀ i x,((rwA m ++ rest).set i x).length = (rwA m ++ rest).length:=fun i x=>List.length_set
          have s8:n ≤ (rwA m ++ rest).length:=by rw [List.length_append,rwA_len];omega
          cases hlt:ltInt m[k + 1]! m[k]! with
          | true=>
           rw [if_neg (by simp [hlt])] at hS
           (repeat first|simp only [ww]|(apply xa;simp +decide only [go_sem,d3,wk,hls,hlt,s1,s2,s3,s4,s5,s6,s7,s8];rfl;kernel_rfl))
           refine lpJ_n k (by omega) ⟨_,_,?_,k,_,rfl,by rw [Pc.swp_size];exact hm,rfl,rfl,by omega,hS⟩
           have f4:=rwA_flatA (d:=swp m (k + 1) k) hrest
           (simp +decide only [go_sem,gcD_eq,gcIds_eq,refs_flatR f4,renR_flat _ f4]<;>rfl)<;>rfl
          | false=>
           rw [if_pos (by simp [hlt])] at hS
           rw [← hS] at hR
           (repeat first|simp only [ww]|(apply xa;simp +decide only [go_sem,d3,wk,hls,hlt,s1,s2,s3,s4,s5,s6,s7,s8];rfl;kernel_rfl))
           rw [bk_54s]
           clear s1 s2 s3 s4 s5 s6 s7 s8
           by_cases h6:b - u ≥ 2
           ·have c6:(2:Int) ≤ ((b - u:Nat):Int):=by omega
            have hR6:partialIns ltInt a b s u (shiftUp ltInt b (u + 1) m) = partialInsertionSort ltInt d a b:=by rw [← hR,if_pos h6]
            (repeat first|simp only [ww]|(apply xa;simp +decide only [go_sem,d3,wb2,c6,wu];rfl;kernel_rfl))
            refine xp_lp kp81_6 (fun N F H=>∃ (k:Nat) (g:Array Int),N = b + 1 - k ∧ g.size = n ∧ F = [(0,.slice 0 0 n c),(1,.int .i64 a),(2,.int .i64 b),(7,.int .i64 (u:Nat)),(8,.int .i64 ((5 - (s + 1):Nat):Int)),(10,.int .i64 (k:Nat))] ∧ H = [some (.row 1 (rwA g ++ rest))] ∧ u < k ∧ k ≤ b ∧ shiftUp ltInt b k g = shiftUp ltInt b (u + 1) m) (b + 1 - (u + 1)) ?_ ?_
            ·have f2:=rwA_flatA (d:=m) hrest
             refine ⟨_,_,?_,u + 1,m,rfl,hm,rfl,rfl,by omega,by omega,rfl⟩
             (simp +decide only [go_sem,gcD_eq,gcIds_eq,refs_flatR f2,renR_flat _ f2]<;>rfl)<;>rfl
            ·rintro N F H ⟨k,g,rfl,hg,rfl,rfl,hk1,hk2,hS⟩
             have f3:=rwA_flatA (d:=g) hrest
             have wk1:=wI1 (n:=k) (by omega)
             have wk2:IntKind.i64.wrap ((k:Int) - 1) = ((k - 1:Nat):Int):=by rw [w64 (by omega) (by omega)];omega
             by_cases hkb:k < b
             ·have d1:(k:Int) < b:=by omega
              have s1:=rwA_get (d:=g) (rest:=rest) (i:=k) (by omega)
              have s2:=rwA_get (d:=g) (rest:=rest) (i:=(k - 1)) (by omega)
              have s3:=rwA_swp (d:=g) (rest:=rest) (i:=k) (j:=(k - 1)) (by omega) (by omega)
              obtain ⟨y,s4⟩:=rwA_get2 (d:=g) (rest:=rest) (i:=k) (j:=(k - 1)) (x:=g[(k - 1)]!) (by omega) (by omega)
              have s5:k < n:=by omega
              have s6:(k - 1) < n:=by omega
              have s7:∀ i x,((rwA g ++ rest).set i x).length = (rwA g ++ rest).length:=fun i x=>List.length_set
              have s8:n ≤ (rwA g ++ rest).length:=by rw [List.length_append,rwA_len];omega
              rw [shiftUp_E,if_pos hkb] at hS
              cases hlt:ltInt g[k]! g[k - 1]! with
              | true=>
               rw [if_neg (by simp [hlt])] at hS
               (repeat first|simp only [ww]|(apply xa;simp +decide only [go_sem,d1,wk1,wk2,hls,hlt,s1,s2,s3,s4,s5,s6,s7,s8];rfl;kernel_rfl))
               refine lpJ_n (b + 1 - (k + 1)) (by omega) ⟨_,_,?_,k + 1,_,rfl,by rw [Pc.swp_size];exact hg,rfl,rfl,by omega,by omega,hS⟩
               have f4:=rwA_flatA (d:=swp g k (k - 1)) hrest
               (simp +decide only [go_sem,gcD_eq,gcIds_eq,refs_flatR f4,renR_flat _ f4]<;>rfl)<;>rfl
              | false=>
               rw [if_pos (by simp [hlt])] at hS
               rw [← hS] at hR6
               (repeat first|simp only [ww]|(apply xa;simp +decide only [go_sem,d1,wk1,wk2,hls,hlt,s1,s2,s3,s4,s5,s6,s7,s8,w8];rfl;kernel_rfl))
               refine lpJ_n s (by omega) ⟨_,_,?_,s,u,g,rfl,by omega,hg,rfl,rfl,by omega,by omega,hR6⟩
               (simp +decide only [go_sem,gcD_eq,gcIds_eq,refs_flatR f3,renR_flat _ f3]<;>rfl)<;>rfl
             ·have d1:¬ (k:Int) < b:=by omega
              rw [shiftUp_E,if_neg hkb] at hS
              rw [← hS] at hR6
              (repeat first|simp only [ww]|(apply xa;simp +decide only [go_sem,d1,w8];rfl;kernel_rfl))
              refine lpJ_n s (by omega) ⟨_,_,?_,s,u,g,rfl,by omega,hg,rfl,rfl,by omega,by omega,hR6⟩
              (simp +decide only [go_sem,gcD_eq,gcIds_eq,refs_flatR f3,renR_flat _ f3]<;>rfl)<;>rfl
           ·have c6:¬ (2:Int) ≤ ((b - u:Nat):Int):=by omega
            rw [if_neg h6] at hR
            (repeat first|simp only [ww]|(apply xa;simp +decide only [go_sem,d3,wb2,c6,w8];rfl;kernel_rfl))
            refine lpJ_n s (by omega) ⟨_,_,?_,s,u,m,rfl,by omega,hm,rfl,rfl,by omega,by omega,hR⟩
            have f2:=rwA_flatA (d:=m) hrest
            (simp +decide only [go_sem,gcD_eq,gcIds_eq,refs_flatR f2,renR_flat _ f2]<;>rfl)<;>rfl
       ·have c3:¬ (2:Int) ≤ ((u - a:Nat):Int):=by omega
        rw [if_neg h2] at hR
        have hz:(swp e u (u - 1)).size = n:=by rw [Pc.swp_size];exact he
        by_cases h6:b - u ≥ 2
        ·have c6:(2:Int) ≤ ((b - u:Nat):Int):=by omega
         have hR6:partialIns ltInt a b s u (shiftUp ltInt b (u + 1) (swp e u (u - 1))) = partialInsertionSort ltInt d a b:=by rw [← hR,if_pos h6]
         (repeat first|simp only [ww]|(apply xa;simp +decide only [go_sem,d2,hl,hls,hlt,wu1,c1,wb,c2,wua,c3,s1,s2,s3,s4,s5,s6,s7,s8,wb2,c6,wu];rfl;kernel_rfl))
         refine xp_lp kp81_6 (fun N F H=>∃ (k:Nat) (g:Array Int),N = b + 1 - k ∧ g.size = n ∧ F = [(0,.slice 0 0 n c),(1,.int .i64 a),(2,.int .i64 b),(7,.int .i64 (u:Nat)),(8,.int .i64 ((5 - (s + 1):Nat):Int)),(10,.int .i64 (k:Nat))] ∧ H = [some (.row 1 (rwA g ++ rest))] ∧ u < k ∧ k ≤ b ∧ shiftUp ltInt b k g = shiftUp ltInt b (u + 1) (swp e u (u - 1))) (b + 1 - (u + 1)) ?_ ?_
         ·have f2:=rwA_flatA (d:=(swp e u (u - 1))) hrest
          refine ⟨_,_,?_,u + 1,(swp e u (u - 1)),rfl,hz,rfl,rfl,by omega,by omega,rfl⟩
          (simp +decide only [go_sem,gcD_eq,gcIds_eq,refs_flatR f2,renR_flat _ f2]<;>rfl)<;>rfl
         ·rintro N F H ⟨k,g,rfl,hg,rfl,rfl,hk1,hk2,hS⟩
          have f3:=rwA_flatA (d:=g) hrest
          have wk1:=wI1 (n:=k) (by omega)
          have wk2:IntKind.i64.wrap ((k:Int) - 1) = ((k - 1:Nat):Int):=by rw [w64 (by omega) (by omega)];omega
          by_cases hkb:k < b
          ·have d1:(k:Int) < b:=by omega
           have s1:=rwA_get (d:=g) (rest:=rest) (i:=k) (by omega)
           have s2:=rwA_get (d:=g) (rest:=rest) (i:=(k - 1)) (by omega)
           have s3:=rwA_swp (d:=g) (rest:=rest) (i:=k) (j:=(k - 1)) (by omega) (by omega)
           obtain ⟨y,s4⟩:=rwA_get2 (d:=g) (rest:=rest) (i:=k) (j:=(k - 1)) (x:=g[(k - 1)]!) (by omega) (by omega)
           have s5:k < n:=by omega
           have s6:(k - 1) < n:=by omega
           have s7:∀ i x,((rwA g ++ rest).set i x).length = (rwA g ++ rest).length:=fun i x=>List.length_set
           have s8:n ≤ (rwA g ++ rest).length:=by rw [List.length_append,rwA_len];omega
           rw [shiftUp_E,if_pos hkb] at hS
           cases hlt:ltInt g[k]! g[k - 1]! with
           | true=>
            rw [if_neg (by simp [hlt])] at hS
            (repeat first|simp only [ww]|(apply xa;simp +decide only [go_sem,d1,wk1,wk2,hls,hlt,s1,s2,s3,s4,s5,s6,s7,s8];rfl;kernel_rfl))
            refine lpJ_n (b + 1 - (k + 1)) (by omega) ⟨_,_,?_,k + 1,_,rfl,by rw [Pc.swp_size];exact hg,rfl,rfl,by omega,by omega,hS⟩
            have f4:=rwA_flatA (d:=swp g k (k - 1)) hrest
            (simp +decide only [go_sem,gcD_eq,gcIds_eq,refs_flatR f4,renR_flat _ f4]<;>rfl)<;>rfl
           | false=>
            rw [if_pos (by simp [hlt])] at hS
            rw [← hS] at hR6
            (repeat first|simp only [ww]|(apply xa;simp +decide only [go_sem,d1,wk1,wk2,hls,hlt,s1,s2,s3,s4,s5,s6,s7,s8,w8];rfl;kernel_rfl))
            refine lpJ_n s (by omega) ⟨_,_,?_,s,u,g,rfl,by omega,hg,rfl,rfl,by omega,by omega,hR6⟩
            (simp +decide only [go_sem,gcD_eq,gcIds_eq,refs_flatR f3,renR_flat _ f3]<;>rfl)<;>rfl
          ·have d1:¬ (k:Int) < b:=by omega
           rw [shiftUp_E,if_neg hkb] at hS
           rw [← hS] at hR6
           (repeat first|simp only [ww]|(apply xa;simp +decide only [go_sem,d1,w8];rfl;kernel_rfl))
           refine lpJ_n s (by omega) ⟨_,_,?_,s,u,g,rfl,by omega,hg,rfl,rfl,by omega,by omega,hR6⟩
           (simp +decide only [go_sem,gcD_eq,gcIds_eq,refs_flatR f3,renR_flat _ f3]<;>rfl)<;>rfl
        ·have c6:¬ (2:Int) ≤ ((b - u:Nat):Int):=by omega
         rw [if_neg h6] at hR
         (repeat first|simp only [ww]|(apply xa;simp +decide only [go_sem,d2,hl,hls,hlt,wu1,c1,wb,c2,wua,c3,s1,s2,s3,s4,s5,s6,s7,s8,wb2,c6,w8];rfl;kernel_rfl))
         refine lpJ_n s (by omega) ⟨_,_,?_,s,u,(swp e u (u - 1)),rfl,by omega,hz,rfl,rfl,by omega,by omega,hR⟩
         have f2:=rwA_flatA (d:=(swp e u (u - 1))) hrest
         (simp +decide only [go_sem,gcD_eq,gcIds_eq,refs_flatR f2,renR_flat _ f2]<;>rfl)<;>rfl
    ·have d2:¬ (u:Int) < b:=by omega
     have hu:scanSorted ltInt e b i = u:=by rw [← hT,scanSorted_E,if_neg (by simp [hub])]
     unfold partialIns at hR
     simp only [hu] at hR
     rw [if_pos (by omega)] at hR
     rw [← hR]
     obtain rfl:u = b:=by omega
     (repeat first|simp only [ww]|(apply xa;simp +decide only [go_sem,d2];rfl;kernel_rfl))
     (apply fqb;simp +decide only [go_sem,renR_flat _ f]<;>rfl)
def xn (x:BitVec 64):BitVec 64:=
 let r:=x ^^^ (x <<< 13)
 let r:=r ^^^ (r >>> 7)
 r ^^^ (r <<< 17)
theorem xn_xor (r:UInt64):(xorNext r).toBitVec = xn r.toBitVec:=rfl
/-- slices.xorshift.Next. -/
theorem next_ok (x:BitVec 64):sem L.env Mf 94 [.ptr 0 0 0] [some (.row 1 [[u64 x]])] = some (u64 (xn x),[some (.row 1 [[u64 (xn x)]])]):=by
 (refine sv Tryd.f94 ?_;simp only [Tryd.f94,gS])
 (repeat first|simp only [ww]|(apply xa;simp +decide only [go_sem];rfl;kernel_rfl))
 (apply fqb;simp +decide only [go_sem,xn]<;>rfl)
theorem sem_up {M:List Fact} {g:FuncId} {args:List AV} {H:Heap} {r:AV × Heap} {call:CallF} (hc:∀ g args H r,call g args H = some r → sem L.env M g args H = some r) (hno:∀ x ∈ M,x.g ≠ g) (lf:Nat) (h:runFn L.env call lf g args H = some r):sem L.env M g args H = some r:=
 sem_iff.2 (.run g args H r call lf (fun g a H r h=>sem_iff.1 (hc g a H r h)) hno h)
def c0:CallF:=fun _ _ _=>none
noncomputable def c1:CallF:=fun g args H=>if g = 86 then runFn L.env c0 9 g args H else none
noncomputable def c2:CallF:=fun g args H=>if g = 66 then runFn L.env c1 9 g args H else none
theorem c1_up:∀ g args H r,c1 g args H = some r → sem L.env Mf g args H = some r:=by
 intro g args H r h
 unfold c1 at h
 split at h
 ·rename_i e;subst e
  exact sem_up (fun _ _ _ _ h=>by cases h) (by decide) 9 h
 ·cases h
theorem c2_up:∀ g args H r,c2 g args H = some r → sem L.env Mf g args H = some r:=by
 intro g args H r h
 unfold c2 at h
 split at h
 ·rename_i e;subst e
  exact sem_up c1_up (by decide) 9 h
 ·cases h
theorem np_all:(List.range 129).map (fun (n:Nat)=>runFn L.env c2 9 93 [.int .i64 n] []) = (List.range 129).map fun (n:Nat)=>some (.int .u64 ((1 <<< bitsLen n:Nat):Int),[]):=by kernel_rfl
theorem np_ok (n:Nat) (h:n < 129):sem L.env Mf 93 [.int .i64 n] [] = some (u64 (BitVec.ofNat 64 (1 <<< bitsLen n)),[]):=by
 have k:=congrArg (fun l=>l[n]?) np_all
 simp only [List.getElem?_map,List.getElem?_range h,Option.map_some,Option.some.injEq] at k
 have hb:(List.range 129).all (fun n=>decide (1 <<< bitsLen n < 300)) = true:=by kernel_rfl
 have hb:=of_decide_eq_true (List.all_eq_true.1 hb n (List.mem_range.2 h))
 rw [← u64_lit _ (by omega)]
 exact sem_up c2_up (by decide) 9 k
theorem np_lt (n:Nat) (h:n < 129) (h8:8 ≤ n):1 <<< bitsLen n ≤ 2 * n ∧ 0 < 1 <<< bitsLen n:=by
 have hb:(List.range 129).all (fun n=>decide (8 ≤ n → 1 <<< bitsLen n ≤ 2 * n ∧ 0 < 1 <<< bitsLen n)) = true:=by kernel_rfl
 exact of_decide_eq_true (List.all_eq_true.1 hb n (List.mem_range.2 h)) h8
theorem flatO_1 (x:BitVec 64):FlatO (some (.row 1 [[u64 x]])):=FlatO.row (by intro r hr;simp only [List.mem_singleton] at hr;subst hr;rfl)
def bpR (a l m:Nat):Nat → UInt64 × Array Int → Nat → Array Int
 | 0,st,_=>st.2
 | k + 1,st,i=>bpR a l m k (breakStep a l m st i) (i + 1)
theorem bp_E (d:Array Int) (a b:Nat) (h:b - a ≥ 8):breakPatterns d a b = bpR a (b - a) (1 <<< bitsLen (b - a)) 3 (UInt64.ofNat (b - a),d) (a + (b - a) / 4 * 2 - 1):=by
 unfold breakPatterns;rw [if_pos h];rfl
/-- slices.breakPatternsOrdered. -/
theorem bp_ok (n:Nat) (c:Option Nat) (d:Array Int) (rest:List (List AV)) (a b:Nat) (hrest:FlatR rest) (hn:n = d.size) (hab:a + 12 < b) (hb:b ≤ n) (hn1:n ≤ 128) :
 sem L.env Mf 78 [.slice 0 0 n c,.int .i64 a,.int .i64 b] [some (.row 1 (rwA d ++ rest))] = some (.tuple [],[some (.row 1 (rwA (breakPatterns d a b) ++ rest))]):=by
 have h0:oneOf [] = .tuple []:=rfl
 have f:=rwA_flatA (d:=d) hrest
 obtain ⟨l,hl⟩:∃ l,b = a + l:=⟨b - a,by omega⟩
 have hT:=bp_E d a b (by omega)
 rw [show b - a = l by omega] at hT
 have w1:IntKind.i64.wrap ((b:Int) - a) = (l:Int):=by rw [w64 (by omega) (by omega)];omega
 have d1:(8:Int) ≤ l:=by omega
 have w2:IntKind.i64.wrap ((l / 4:Nat):Int) = ((l / 4:Nat):Int):=w64 (by omega) (by omega)
 have w4:IntKind.i64.wrap (((l / 4:Nat):Int) * 2) = ((l / 4 * 2:Nat):Int):=by rw [w64 (by omega) (by omega)];omega
 have w5:IntKind.i64.wrap ((a:Int) + ((l / 4 * 2:Nat):Int)) = ((a + l / 4 * 2:Nat):Int):=by rw [w64 (by omega) (by omega)];omega
 obtain ⟨i0,hi0⟩:∃ i0,i0 = a + l / 4 * 2 - 1:=⟨_,rfl⟩
 have w6:IntKind.i64.wrap (((a + l / 4 * 2:Nat):Int) - 1) = (i0:Int):=by rw [w64 (by omega) (by omega)];omega
 have w7:IntKind.i64.wrap (((a + l / 4 * 2:Nat):Int) + 1) = ((i0 + 2:Nat):Int):=by rw [w64 (by omega) (by omega)];omega
 rw [← hi0] at hT
 obtain ⟨hm1,hm2⟩:=np_lt l (by omega) (by omega)
 have hnp:=callV_flat (E:=L.env) (draw:=false) (call:=sem L.env Mf) (g:=93) (fs:=[]) (cs:=[]) (ar:=[.int .i64 l]) (H:=[some (.row 1 (rwA d ++ rest)),some (.row 1 [[u64 (BitVec.ofInt 64 l)]])]) (by kernel_rfl) (by kernel_rfl) rfl rfl (np_ok l (by omega)) rfl
 obtain ⟨m,hm⟩:∃ m,m = 1 <<< bitsLen l:=⟨_,rfl⟩
 rw [← hm] at hm1 hm2 hnp hT
 (refine sv Tryd.f78 ?_;simp only [Tryd.f78,gS])
 (repeat first|simp only [ww]|(apply xa;simp +decide only [go_sem,w1,d1,w2,w4,w5,w6,hnp];rfl;kernel_rfl))
 refine xp_lp kp78_0 (fun N F H=>∃ (k:Nat) (r:UInt64) (e:Array Int),N = k ∧ k ≤ 3 ∧ e.size = n ∧ F = [(0,.slice 0 0 n c),(1,.int .i64 a),(6,.int .i64 l),(7,.ptr 1 0 0),(8,u64 (BitVec.ofNat 64 m)),(9,.int .i64 ((i0 + (3 - k):Nat):Int))] ∧ H = [some (.row 1 (rwA e ++ rest)),some (.row 1 [[u64 r.toBitVec]])] ∧ bpR a l m k (r,e) (i0 + (3 - k)) = breakPatterns d a b) 3 ?_ ?_
 ·refine ⟨[(0,.slice 0 0 n c),(1,.int .i64 a),(6,.int .i64 l),(7,.ptr 1 0 0),(8,u64 (BitVec.ofNat 64 m)),(9,.int .i64 i0)],[some (.row 1 (rwA d ++ rest)),some (.row 1 [[u64 (BitVec.ofInt 64 l)]])],by (simp +decide only [go_sem,gcD_eq,gcIds_eq,refs_flatR f,renR_flat _ f]<;>rfl)<;>rfl,3,UInt64.ofNat l,d,rfl,by omega,hn.symm,rfl,?_,hT.symm⟩
  rw [BitVec.ofInt_natCast];rfl
 ·rintro N F H ⟨k,r,e,rfl,hk,he,rfl,rfl,hR⟩
  have fe:=rwA_flatA (d:=e) hrest
  cases N with
  | zero=>
   have d2:¬ ((i0 + (3 - 0):Nat):Int) ≤ ((i0 + 2:Nat):Int):=by omega
   have hR:e = breakPatterns d a b:=hR
   rw [← hR]
   (repeat first|simp only [ww]|(apply xa;simp +decide only [go_sem,d2,w2,w4,w5,w7];rfl;kernel_rfl))
   (apply fqb;simp +decide only [go_sem,h0,renR_flat _ fe]<;>rfl)
  | succ k=>
   obtain ⟨i,hi⟩:∃ i,i = i0 + (3 - (k + 1)):=⟨_,rfl⟩
   have hi2:i0 + (3 - k) = i + 1:=by omega
   rw [← hi] at hR ⊢
   have d2:(i:Int) ≤ ((i0 + 2:Nat):Int):=by omega
   have wi:=wI1 (n:=i) (by omega)
   have hx:=callV_one' (E:=L.env) (draw:=false) (call:=sem L.env Mf) (g:=94) (fs:=[]) (cs:=[]) (ar:=[.ptr 1 0 0]) (H:=[some (.row 1 (rwA e ++ rest)),some (.row 1 [[u64 r.toBitVec]])]) (b:=1) (by kernel_rfl) (by kernel_rfl) rfl rfl rfl (flatO_1 _) rfl rfl (next_ok r.toBitVec) (flatO_1 _) rfl
   have hst:breakStep a l m (r,e) i = (xorNext r,swp e i (a + (if (xorNext r).toNat &&& (m - 1) ≥ l then ((xorNext r).toNat &&& (m - 1)) - l else (xorNext r).toNat &&& (m - 1)))):=rfl
   rw [← xn_xor] at hx
   obtain ⟨o,ho⟩:∃ o,o = (xorNext r).toNat &&& (m - 1):=⟨_,rfl⟩
   have ho1:o ≤ m - 1:=by rw [ho];exact Nat.and_le_right
   rw [← ho] at hst
   have hw:IntKind.i64.wrap ((((xorNext r).toBitVec &&& BitVec.ofNat 64 m - BitVec.ofInt 64 1).toNat:Nat):Int) = (o:Nat):=by
    have h1:(BitVec.ofNat 64 m - BitVec.ofInt 64 1).toNat = m - 1:=by
     have:BitVec.ofInt 64 1 = 1#64:=rfl
     rw [this,BitVec.toNat_sub,BitVec.toNat_ofNat,BitVec.toNat_ofNat];omega
    rw [BitVec.toNat_and,h1]
    rw [show (xorNext r).toBitVec.toNat &&& (m - 1) = o from ho.symm]
    exact w64 (by omega) (by omega)
   have hR:bpR a l m k (breakStep a l m (r,e) i) (i + 1) = breakPatterns d a b:=hR
   rw [hst] at hR
   by_cases hol:o ≥ l
   ·have d3:(l:Int) ≤ o:=by omega
    have wo:IntKind.i64.wrap ((o:Int) - l) = ((o - l:Nat):Int):=by rw [w64 (by omega) (by omega)];omega
    have wa:IntKind.i64.wrap ((a:Int) + ((o - l:Nat):Int)) = ((a + (o - l):Nat):Int):=by rw [w64 (by omega) (by omega)];omega
    rw [if_pos hol] at hR
    have s1:=rwA_get (d:=e) (rest:=rest) (i:=i) (by omega)
    have s2:=rwA_get (d:=e) (rest:=rest) (i:=(a + (o - l))) (by omega)
    have s3:=rwA_swp (d:=e) (rest:=rest) (i:=i) (j:=(a + (o - l))) (by omega) (by omega)
    obtain ⟨y,s4⟩:=rwA_get2 (d:=e) (rest:=rest) (i:=i) (j:=(a + (o - l))) (x:=e[(a + (o - l))]!) (by omega) (by omega)
    have s5:i < n:=by omega
    have s6:(a + (o - l)) < n:=by omega
    have s7:∀ i x,((rwA e ++ rest).set i x).length = (rwA e ++ rest).length:=fun i x=>List.length_set
    have s8:n ≤ (rwA e ++ rest).length:=by rw [List.length_append,rwA_len];omega
    (repeat first|simp only [ww]|(apply xa;simp +decide only [go_sem,d2,w2,w4,w5,w7,hx,hw,d3,wo,wa,wi,s1,s2,s3,s4,s5,s6,s7,s8];rfl;kernel_rfl))
    refine lpJ_n k (by omega) ⟨[(0,.slice 0 0 n c),(1,.int .i64 a),(6,.int .i64 l),(7,.ptr 1 0 0),(8,u64 (BitVec.ofNat 64 m)),(9,.int .i64 ((i + 1:Nat):Int))],_,?_,k,xorNext r,swp e i (a + (o - l)),rfl,by omega,by rw [Pc.swp_size];exact he,by rw [hi2],rfl,by rw [hi2];exact hR⟩
    have f2:=rwA_flatA (d:=swp e i (a + (o - l))) hrest
    (simp +decide only [go_sem,gcD_eq,gcIds_eq,refs_flatR f2,renR_flat _ f2]<;>rfl)<;>rfl
   ·have d3:¬ (l:Int) ≤ o:=by omega
    have wa:IntKind.i64.wrap ((a:Int) + (o:Int)) = ((a + o:Nat):Int):=by rw [w64 (by omega) (by omega)];omega
    rw [if_neg hol] at hR
    have s1:=rwA_get (d:=e) (rest:=rest) (i:=i) (by omega)
    have s2:=rwA_get (d:=e) (rest:=rest) (i:=(a + o)) (by omega)
    have s3:=rwA_swp (d:=e) (rest:=rest) (i:=i) (j:=(a + o)) (by omega) (by omega)
    obtain ⟨y,s4⟩:=rwA_get2 (d:=e) (rest:=rest) (i:=i) (j:=(a + o)) (x:=e[(a + o)]!) (by omega) (by omega)
    have s5:i < n:=by omega
    have s6:(a + o) < n:=by omega
    have s7:∀ i x,((rwA e ++ rest).set i x).length = (rwA e ++ rest).length:=fun i x=>List.length_set
    have s8:n ≤ (rwA e ++ rest).length:=by rw [List.length_append,rwA_len];omega
    (repeat first|simp only [ww]|(apply xa;simp +decide only [go_sem,d2,w2,w4,w5,w7,hx,hw,d3,wa,wi,s1,s2,s3,s4,s5,s6,s7,s8];rfl;kernel_rfl))
    refine lpJ_n k (by omega) ⟨[(0,.slice 0 0 n c),(1,.int .i64 a),(6,.int .i64 l),(7,.ptr 1 0 0),(8,u64 (BitVec.ofNat 64 m)),(9,.int .i64 ((i + 1:Nat):Int))],_,?_,k,xorNext r,swp e i (a + o),rfl,by omega,by rw [Pc.swp_size];exact he,by rw [hi2],rfl,by rw [hi2];exact hR⟩
    have f2:=rwA_flatA (d:=swp e i (a + o)) hrest
    (simp +decide only [go_sem,gcD_eq,gcIds_eq,refs_flatR f2,renR_flat _ f2]<;>rfl)<;>rfl
theorem hintI_inj (h:Hint):(hintI h = 2 ↔ h = .decreasing) ∧ (hintI h = 1 ↔ h = .increasing):=by cases h<;>decide
def NrmQ (R:Frm → Heap → Prop):Post:=fun e F H=>e = AExit.normal ∧ R F H
theorem nrm_i {R:Frm → Heap → Prop} {F:Frm} {H:Heap} (h:R F H):NrmQ R .normal F H:=⟨rfl,h⟩
def NrQ (R:Frm → Heap → Prop) (H0:Heap):Post:=fun e F H=>(e = AExit.normal ∧ R F H) ∨ (e = AExit.ret ∧ H = H0)
theorem nr_n {R:Frm → Heap → Prop} {H0:Heap} {F:Frm} {H:Heap} (h:R F H):NrQ R H0 .normal F H:=.inl ⟨rfl,h⟩
theorem nr_r {R:Frm → Heap → Prop} {H0:Heap} {F:Frm} {H:Heap} (h:H = H0):NrQ R H0 .ret F H:=.inr ⟨rfl,h⟩
/-- slices.pdqsortOrdered. -/
theorem pdq_ok (n:Nat) (c:Option Nat) (rest:List (List AV)) (hrest:FlatR rest) (hn1:n ≤ 128):∀ (sz:Nat) (d:Array Int) (a b lim:Nat),b - a < sz → n = d.size → a ≤ b → b ≤ n → lim ≤ 1000 → Below ltInt a b d →
 sem L.env Mf 65 [.slice 0 0 n c,.int .i64 a,.int .i64 b,.int .i64 lim] [some (.row 1 (rwA d ++ rest))] = some (.tuple [],[some (.row 1 (rwA (pdq ltInt d a b lim true true) ++ rest))]):=by
 have hls:=fun d' H x y=>less_call (d:=d') H x y
 have h0:oneOf [] = .tuple []:=rfl
 intro sz
 induction sz with
 | zero=>intro d a b lim h;omega
 | succ sz IH=>
 intro d a0 b0 lim0 hsz hn hab0 hb0 hlim0 hB0
 have f:=rwA_flatA (d:=d) hrest
 have IHc:=fun (dd:Bool) (d:Array Int) (a b lim:Nat) (h1:b - a < sz) (h2:n = d.size) (h3:a ≤ b) (h4:b ≤ n) (h5:lim ≤ 1000) (h6:Below ltInt a b d)=>call0 (d:=dd) (by kernel_rfl) (by kernel_rfl) (rwA_flatA (d:=d) hrest) (rwA_flatA (d:=pdq ltInt d a b lim true true) hrest) rfl rfl rfl (IH d a b lim h1 h2 h3 h4 h5 h6)
 (refine sv Tryd.f65 ?_;simp only [Tryd.f65,gS])
 (repeat first|simp only [ww]|(apply xa;simp +decide only [go_sem];rfl;kernel_rfl))
 refine xp_lp kp65_0 (fun N F H=>∃ (a b lim:Nat) (wb wp:Bool) (e:Array Int),N = b - a ∧ b - a < sz + 1 ∧ e.size = n ∧ a ≤ b ∧ b ≤ n ∧ lim ≤ 1000 ∧ Below ltInt a b e ∧ F = [(0,.slice 0 0 n c),(1,.int .i64 a),(2,.int .i64 b),(3,.int .i64 lim),(8,.bool wb),(9,.bool wp)] ∧ H = [some (.row 1 (rwA e ++ rest))] ∧ pdq ltInt e a b lim wb wp = pdq ltInt d a0 b0 lim0 true true) (b0 - a0) ?_ ?_
 ·exact ⟨_,_,by (simp +decide only [go_sem,gcD_eq,gcIds_eq,refs_flatR f,renR_flat _ f]<;>rfl)<;>rfl,a0,b0,lim0,true,true,d,rfl,hsz,hn.symm,hab0,hb0,hlim0,hB0,rfl,rfl,rfl⟩
 ·generalize pdq ltInt d a0 b0 lim0 true true = FIN
  rintro N F H ⟨a,b,lim,wb,wp,e,rfl,hba,he,hab,hb,hlim,hB,rfl,rfl,hR⟩
  have fe:=rwA_flatA (d:=e) hrest
  rw [pdq_E] at hR
  have w1:IntKind.i64.wrap ((b:Int) - a) = ((b - a:Nat):Int):=by rw [w64 (by omega) (by omega)];omega
  by_cases h12:b - a ≤ 12
  ·rw [if_pos h12] at hR
   have c1:((b - a:Nat):Int) ≤ 12:=by omega
   have k1:=call0 (d:=false) (by kernel_rfl) (by kernel_rfl) fe (rwA_flatA (d:=insertionSort ltInt e a b) hrest) rfl rfl rfl (ins_ok n c e rest a b hrest he.symm hab hb (by omega))
   rw [← hR]
   have f2:=rwA_flatA (d:=insertionSort ltInt e a b) hrest
   (repeat first|simp only [ww]|(apply xa;simp +decide only [go_sem,w1,c1,k1];rfl;kernel_rfl))
   (apply fqb;simp +decide only [go_sem,h0,renR_flat _ f2]<;>rfl)
  ·rw [if_neg h12] at hR
   have c1:¬ ((b - a:Nat):Int) ≤ 12:=by omega
   by_cases hl0:lim = 0
   ·rw [if_pos hl0] at hR
    have c2:(lim:Int) = 0:=by omega
    have k1:=call0 (d:=false) (by kernel_rfl) (by kernel_rfl) fe (rwA_flatA (d:=heapSort ltInt e a b) hrest) rfl rfl rfl (heap_ok n c e rest a b hrest he.symm (by omega) hb (by omega))
    rw [← hR]
    have f2:=rwA_flatA (d:=heapSort ltInt e a b) hrest
    (repeat first|simp only [ww]|(apply xa;simp +decide only [go_sem,w1,c1,c2,k1];rfl;kernel_rfl))
    (apply fqb;simp +decide only [go_sem,h0,renR_flat _ f2]<;>rfl)
   ·rw [if_neg hl0] at hR
    have c2:¬ (lim:Int) = 0:=by omega
    (repeat first|simp only [ww]|(apply xa;simp +decide only [go_sem,w1,c1,c2];rfl;kernel_rfl))
    -- breakPatterns
    refine xp_mono (Q:=NrmQ fun F1 H1=>∃ (d1:Array Int) (l1:Nat),d1.size = n ∧ l1 ≤ 1000 ∧ Below ltInt a b d1 ∧ getF F1 0 = .slice 0 0 n c ∧ getF F1 1 = .int .i64 a ∧ getF F1 2 = .int .i64 b ∧ getF F1 3 = .int .i64 l1 ∧ getF F1 8 = .bool wb ∧ getF F1 9 = .bool wp ∧ getF F1 10 = .int .i64 (b - a:Nat) ∧ H1 = [some (.row 1 (rwA d1 ++ rest))] ∧ pdq1 d1 a b l1 wb wp = FIN) ?_ ?_
    ·cases wb with
     | true=>
      (repeat first|simp only [ww]|(apply xa;simp +decide only [go_sem];rfl;kernel_rfl))
      refine nrm_i ⟨e,lim,he,hlim,hB,?_,?_,?_,?_,?_,?_,?_,rfl,hR⟩<;>rfl
     | false=>
      have k1:=call0 (d:=false) (by kernel_rfl) (by kernel_rfl) fe (rwA_flatA (d:=breakPatterns e a b) hrest) rfl rfl rfl (bp_ok n c e rest a b hrest he.symm (by omega) hb hn1)
      have w2:IntKind.i64.wrap ((lim:Int) - 1) = ((lim - 1:Nat):Int):=by rw [w64 (by omega) (by omega)];omega
      have p1:PermIn a b e (breakPatterns e a b):=breakPatterns_holds e a b hab (by omega)
      (repeat first|simp only [ww]|(apply xa;simp +decide only [go_sem,k1,w2];rfl;kernel_rfl))
      refine nrm_i ⟨_,lim - 1,p1.1.trans he,by omega,hB.perm (by omega) p1,?_,?_,?_,?_,?_,?_,?_,rfl,hR⟩<;>rfl
    rintro e1 F1 H1 ⟨rfl,d1,l1,hd1,hl1,hB1,g0,g1,g2,g3,g8,g9,g10,rfl,hR1⟩
    clear hR fe w1
    have fe:=rwA_flatA (d:=d1) hrest
    obtain ⟨hc1,hc2⟩:=choosePivot_holds ltInt d1 a b (by omega)
    unfold pdq1 at hR1
    have k1:=call0 (d:=false) (by kernel_rfl) (by kernel_rfl) fe fe rfl rfl rfl (pivot_ok n c d1 rest a b hrest hd1.symm (by omega) hb (by omega))
    generalize choosePivot ltInt d1 a b = cp at *
    obtain ⟨p,hint⟩:=cp
    (repeat first|simp only [ww]|(apply xa;simp +decide only [go_sem,k1,g0,g1,g2];rfl;kernel_rfl))
    -- reverseRange
    refine xp_mono (Q:=NrmQ fun F2 H2=>∃ (d2:Array Int) (p2:Nat) (hint2:Hint),d2.size = n ∧ a ≤ p2 ∧ p2 < b ∧ Below ltInt a b d2 ∧ getF F2 0 = .slice 0 0 n c ∧ getF F2 1 = .int .i64 a ∧ getF F2 2 = .int .i64 b ∧ getF F2 3 = .int .i64 l1 ∧ getF F2 8 = .bool wb ∧ getF F2 9 = .bool wp ∧ getF F2 10 = .int .i64 (b - a:Nat) ∧ getF F2 11 = .int .i64 p2 ∧ getF F2 12 = .int .i64 (hintI hint2) ∧ H2 = [some (.row 1 (rwA d2 ++ rest))] ∧ pdq2 d2 a b l1 wb wp p2 hint2 = FIN) ?_ ?_
    ·by_cases hd:hint = .decreasing
     ·rw [if_pos hd] at hR1
      have c3:=(hintI_inj hint).1.2 hd
      have k2:=call0 (d:=false) (by kernel_rfl) (by kernel_rfl) fe (rwA_flatA (d:=reverseRange d1 a b) hrest) rfl rfl rfl (rev_ok n c d1 rest a b hrest hd1.symm (by omega) hb (by omega))
      have p1:PermIn a b d1 (reverseRange d1 a b):=reverseRange_holds d1 a b hab (by omega)
      have w2:IntKind.i64.wrap ((b:Int) - 1) = ((b - 1:Nat):Int):=by rw [w64 (by omega) (by omega)];omega
      have w3:IntKind.i64.wrap ((p:Int) - a) = ((p - a:Nat):Int):=by rw [w64 (by omega) (by omega)];omega
      have w4:IntKind.i64.wrap (((b - 1:Nat):Int) - ((p - a:Nat):Int)) = ((b - 1 - (p - a):Nat):Int):=by rw [w64 (by omega) (by omega)];omega
      (repeat first|simp only [ww]|(apply xa;simp +decide only [go_sem,k2,g0,g1,g2,w2,w3,w4,c3];rfl;kernel_rfl))
      refine nrm_i ⟨_,b - 1 - (p - a),.increasing,p1.1.trans hd1,by omega,by omega,hB1.perm (by omega) p1,?_,?_,?_,?_,?_,?_,?_,?_,?_,rfl,hR1⟩<;>first|rfl|assumption
     ·rw [if_neg hd] at hR1
      have c3:¬ hintI hint = 2:=fun h=>hd ((hintI_inj hint).1.1 h)
      (repeat first|simp only [ww]|(apply xa;simp +decide only [go_sem,c3];rfl;kernel_rfl))
      refine nrm_i ⟨d1,p,hint,hd1,hc1,hc2,hB1,?_,?_,?_,?_,?_,?_,?_,?_,?_,rfl,hR1⟩<;>first|rfl|assumption
    clear k1 hR1 hc1 hc2 g0 g1 g2 g3 g8 g9 g10 fe hint
    rintro e1 F2 H2 ⟨rfl,d2,p2,hint,hd2,hp1,hp2,hB2,g0,g1,g2,g3,g8,g9,g10,g11,g12,rfl,hR2⟩
    have fe:=rwA_flatA (d:=d2) hrest
    unfold pdq2 at hR2
    simp only at hR2
    simp only [ww]
    refine xs_midS (fun F3 H3=>getF F3 0 = .slice 0 0 n c ∧ getF F3 1 = .int .i64 a ∧ getF F3 2 = .int .i64 b ∧ getF F3 3 = .int .i64 l1 ∧ getF F3 8 = .bool wb ∧ getF F3 9 = .bool wp ∧ getF F3 10 = .int .i64 (b - a:Nat) ∧ getF F3 11 = .int .i64 p2 ∧ getF F3 68 = .bool (wb && wp && decide (hint = .increasing)) ∧ H3 = [some (.row 1 (rwA d2 ++ rest))]) ?_ ?_
    ·have c4:=(hintI_inj hint).2
     by_cases hi:hint = .increasing
     ·have c5:=c4.2 hi
      cases wb<;>cases wp<;>refine mid_introS (by simp +decide only [go_sem,g8,g9,g12,c5];rfl) ⟨?_,?_,?_,?_,?_,?_,?_,?_,?_,rfl⟩<;>first|assumption|(simp only [hi];rfl)
     ·have c5:¬ hintI hint = 1:=fun h=>hi (c4.1 h)
      cases wb<;>cases wp<;>refine mid_introS (by simp +decide only [go_sem,g8,g9,g12,c5];rfl) ⟨?_,?_,?_,?_,?_,?_,?_,?_,?_,rfl⟩<;>first|assumption|(simp only [hi];rfl)
    clear g0 g1 g2 g3 g8 g9 g10 g11 g12
    rintro F3 H3 ⟨g0,g1,g2,g3,g8,g9,g10,g11,g68,rfl⟩
    -- partialInsertionSort
    trace_state
    (repeat first|simp only [ww]|(apply xa;simp +decide only [go_sem];rfl;kernel_rfl))
    trace_state
    refine xp_mono (Q:=NrQ (fun F4 H4=>∃ d3:Array Int,d3.size = n ∧ Below ltInt a b d3 ∧ getF F4 0 = .slice 0 0 n c ∧ getF F4 1 = .int .i64 a ∧ getF F4 2 = .int .i64 b ∧ getF F4 3 = .int .i64 l1 ∧ getF F4 8 = .bool wb ∧ getF F4 9 = .bool wp ∧ getF F4 10 = .int .i64 (b - a:Nat) ∧ getF F4 11 = .int .i64 p2 ∧ H4 = [some (.row 1 (rwA d3 ++ rest))] ∧ pdq3 d3 a b l1 wb wp p2 = FIN) [some (.row 1 (rwA FIN ++ rest))]) ?_ ?_
    ·generalize (wb && wp && decide (hint = Hint.increasing)) = t at hR2 g68
     cases t with
     | false=>
      rw [if_neg (by simp),if_neg (by simp)] at hR2
      (repeat first|simp only [ww]|(apply xa;simp +decide only [go_sem,g68];rfl;kernel_rfl))
      exact nr_n ⟨d2,hd2,hB2,g0,g1,g2,g3,g8,g9,g10,g11,rfl,hR2⟩
     | true=>
      rw [if_pos rfl] at hR2
      have p1:=(partialInsertionSort_holds swo_ltInt d2 a b (by omega) (by omega) hB2).1
      have k2:=call0 (d:=false) (by kernel_rfl) (by kernel_rfl) fe (rwA_flatA (d:=(partialInsertionSort ltInt d2 a b).1) hrest) rfl rfl rfl (pins_ok n c d2 rest a b hrest hd2.symm (by omega) hb (by omega))
      generalize partialInsertionSort ltInt d2 a b = pr at *
      obtain ⟨d3,u⟩:=pr
      cases u with
      | true=>
       rw [if_pos rfl] at hR2
       (repeat first|simp only [ww]|(apply xa;simp +decide only [go_sem,g68,k2,g0,g1,g2];rfl;kernel_rfl))
       exact nr_r (by rw [← hR2])
      | false=>
       rw [if_neg (by simp)] at hR2
       (repeat first|simp only [ww]|(apply xa;simp +decide only [go_sem,g68,k2,g0,g1,g2];rfl;kernel_rfl))
       refine nr_n ⟨d3,p1.1.trans hd2,hB2.perm (by omega) p1,?_,?_,?_,?_,?_,?_,?_,?_,rfl,hR2⟩<;>assumption
    clear g0 g1 g2 g3 g8 g9 g10 g11 g68 hR2 fe
    rintro e1 F4 H4 (⟨rfl,d3,hd3,hB3,g0,g1,g2,g3,g8,g9,g10,g11,rfl,hR3⟩|⟨rfl,rfl⟩)
    rotate_left
    ·have f2:=rwA_flatA (d:=FIN) hrest
     (repeat first|simp only [ww]|(apply xa;simp +decide only [go_sem];rfl;kernel_rfl))
     (apply fqb;simp +decide only [go_sem,h0,renR_flat _ f2]<;>rfl)
    have fe:=rwA_flatA (d:=d3) hrest
    unfold pdq3 at hR3
    by_cases hq:a > 0 ∧ ltInt d3[a - 1]! d3[p2]! = false
    · -- partitionEqual
     rw [if_pos (by simp [hq.1,hq.2])] at hR3
     obtain ⟨r1,r2,r3,r4,-⟩:=round_eq (mid:=(partitionEqual ltInt d3 a b p2).1) (d4:=(partitionEqual ltInt d3 a b p2).2) swo_ltInt (partitionEqual_holds ltInt) hq.1 hp1 hp2 (by omega) hB3 hq.2 rfl
     have k2:=call0 (d:=false) (by kernel_rfl) (by kernel_rfl) fe (rwA_flatA (d:=(partitionEqual ltInt d3 a b p2).2) hrest) rfl rfl rfl (partEq_ok n c d3 rest a b p2 hrest hd3.symm (by omega) hb (by omega) (by omega))
     generalize partitionEqual ltInt d3 a b p2 = pr at *
     obtain ⟨mid,d4⟩:=pr
     simp only at hR3 r1 r2 r3 r4 k2
     rw [if_pos ⟨r1,r2⟩] at hR3
     have c6:(0:Int) < a:=by omega
     have w2:IntKind.i64.wrap ((a:Int) - 1) = ((a - 1:Nat):Int):=by rw [w64 (by omega) (by omega)];omega
     have i1:a - 1 < n:=by omega
     have i2:p2 < n:=by omega
     have hl:n ≤ (rwA d3 ++ rest).length:=by rw [List.length_append,rwA_len];omega
     have s1:=rwA_get (d:=d3) (rest:=rest) (i:=a - 1) (by omega)
     have s2:=rwA_get (d:=d3) (rest:=rest) (i:=p2) (by omega)
     have hlt:=hq.2
     (repeat first|simp only [ww]|(apply xa;simp +decide only [go_sem,g0,g1,g2,g11,c6,w2,i1,i2,hl,s1,s2,hls,hlt,k2];rfl;kernel_rfl))
     refine lpJ_n (b - mid) (by omega) ⟨_,_,?_,mid,b,l1,wb,wp,d4,rfl,by omega,r3.trans hd3,r2,hb,hl1,r4,rfl,rfl,hR3⟩
     have f2:=rwA_flatA (d:=d4) hrest
     (simp +decide only [go_sem,gcD_eq,gcIds_eq,refs_flatR f2,renR_flat _ f2,g0,g1,g2,g3,g8,g9]<;>rfl)<;>rfl
    ·rw [if_neg (fun h=>hq (by simp only [Bool.and_eq_true,decide_eq_true_eq,Bool.not_eq_true'] at h;exact h))] at hR3
     have h4:((0:Int) < a ∧ ltInt d3[a - 1]! d3[p2]! = true ∧ (rwA d3 ++ rest)[a - 1]? = some [AV.int .i64 d3[a - 1]!] ∧ IntKind.i64.wrap ((a:Int) - 1) = ((a - 1:Nat):Int) ∧ a - 1 < n) ∨ ((¬ (0:Int) < a) ∧ (0:Nat) < 1 ∧ (0:Nat) < 1 ∧ (0:Nat) < 1 ∧ (0:Nat) < 1):=by
      by_cases h:a > 0
      ·refine .inl ⟨by omega,?_,rwA_get (by omega),by rw [w64 (by omega) (by omega)];omega,by omega⟩
       cases hh:ltInt d3[a - 1]! d3[p2]!
       ·exact absurd ⟨h,hh⟩ hq
       ·rfl
      ·exact .inr ⟨by omega,by decide,by decide,by decide,by decide⟩
     obtain ⟨r1,r2,r3,r4,r5,r6,r7⟩:=round_part (mid:=(partition ltInt d3 a b p2).1) (ap:=(partition ltInt d3 a b p2).2.1) (d4:=(partition ltInt d3 a b p2).2.2) swo_ltInt (partition_holds ltInt) hp1 hp2 (by omega) hB3 rfl
     have k2:=call0 (d:=false) (by kernel_rfl) (by kernel_rfl) fe (rwA_flatA (d:=(partition ltInt d3 a b p2).2.2) hrest) rfl rfl rfl (part_ok n c d3 rest a b p2 hrest hd3.symm (by omega) hb (by omega) (by omega))
     generalize partition ltInt d3 a b p2 = pr at *
     obtain ⟨mid,ap,d4⟩:=pr
     simp only at hR3 r1 r2 r3 r4 r5 r6 r7 k2
     rw [if_pos ⟨r1,r2⟩] at hR3
     have i2:p2 < n:=by omega
     have hl:n ≤ (rwA d3 ++ rest).length:=by rw [List.length_append,rwA_len];omega
     have s2:=rwA_get (d:=d3) (rest:=rest) (i:=p2) (by omega)
     have w3:IntKind.i64.wrap ((mid:Int) - a) = ((mid - a:Nat):Int):=by rw [w64 (by omega) (by omega)];omega
     have w4:IntKind.i64.wrap ((b:Int) - mid) = ((b - mid:Nat):Int):=by rw [w64 (by omega) (by omega)];omega
     have w5:IntKind.i64.wrap (((b - a) / 8:Nat):Int) = (((b - a) / 8:Nat):Int):=w64 (by omega) (by omega)
     have w6:=wI1 (n:=mid) (by omega)
     have hz4:=r3.trans hd3
     by_cases hm:mid - a < b - mid
     ·have c6:((mid - a:Nat):Int) < ((b - mid:Nat):Int):=by omega
      rw [if_pos hm] at hR3
      obtain ⟨q1,q2⟩:=pdq_sorts ltInt swo_ltInt d4 a mid l1 true true r1 (by omega) r4
      have k3:=IHc false d4 a mid l1 (by omega) hz4.symm r1 (by omega) hl1 r4
      have r8:=(r6 _ q1 q2).1
      have hz5:=q1.1.trans hz4
      generalize pdq ltInt d4 a mid l1 true true = d5 at *
      have f2:=rwA_flatA (d:=d5) hrest
      rcases h4 with ⟨d1,d2,d3,d4,d5⟩|⟨d1,d2,d3,d4,d5⟩
      all_goals
       by_cases h8:mid - a ≥ (b - a) / 8
       ·have c7:(((b - a) / 8:Nat):Int) ≤ ((mid - a:Nat):Int):=by omega
        rw [decide_eq_true h8] at hR3
        (repeat first|simp only [ww]|(apply xa;simp +decide only [go_sem,g0,g1,g2,g3,g10,g11,d1,d2,d3,d4,d5,i2,hl,s2,hls,k2,w3,w4,w5,w6,c6,c7,k3];rfl;kernel_rfl))
        refine lpJ_n (b - (mid + 1)) (by omega) ⟨_,_,?_,mid + 1,b,l1,true,ap,_,rfl,by omega,hz5,by omega,hb,hl1,r8,rfl,rfl,hR3⟩
        (simp +decide only [go_sem,gcD_eq,gcIds_eq,refs_flatR f2,renR_flat _ f2,g0,g1,g2,g3,g8,g9]<;>rfl)<;>rfl
       ·have c7:¬ (((b - a) / 8:Nat):Int) ≤ ((mid - a:Nat):Int):=by omega
        rw [decide_eq_false h8] at hR3
        (repeat first|simp only [ww]|(apply xa;simp +decide only [go_sem,g0,g1,g2,g3,g10,g11,d1,d2,d3,d4,d5,i2,hl,s2,hls,k2,w3,w4,w5,w6,c6,c7,k3];rfl;kernel_rfl))
        refine lpJ_n (b - (mid + 1)) (by omega) ⟨_,_,?_,mid + 1,b,l1,false,ap,_,rfl,by omega,hz5,by omega,hb,hl1,r8,rfl,rfl,hR3⟩
        (simp +decide only [go_sem,gcD_eq,gcIds_eq,refs_flatR f2,renR_flat _ f2,g0,g1,g2,g3,g8,g9]<;>rfl)<;>rfl
     ·have c6:¬ ((mid - a:Nat):Int) < ((b - mid:Nat):Int):=by omega
      rw [if_neg hm] at hR3
      obtain ⟨q1,q2⟩:=pdq_sorts ltInt swo_ltInt d4 (mid + 1) b l1 true true (by omega) (by omega) r5
      have k3:=IHc false d4 (mid + 1) b l1 (by omega) hz4.symm (by omega) (by omega) hl1 r5
      have r8:=(r7 _ q1 q2).1
      have hz5:=q1.1.trans hz4
      generalize pdq ltInt d4 (mid + 1) b l1 true true = d5 at *
      have f2:=rwA_flatA (d:=d5) hrest
      rcases h4 with ⟨d1,d2,d3,d4,d5⟩|⟨d1,d2,d3,d4,d5⟩
      all_goals
       by_cases h8:b - mid ≥ (b - a) / 8
       ·have c7:(((b - a) / 8:Nat):Int) ≤ ((b - mid:Nat):Int):=by omega
        rw [decide_eq_true h8] at hR3
        (repeat first|simp only [ww]|(apply xa;simp +decide only [go_sem,g0,g1,g2,g3,g10,g11,d1,d2,d3,d4,d5,i2,hl,s2,hls,k2,w3,w4,w5,w6,c6,c7,k3];rfl;kernel_rfl))
        refine lpJ_n (mid - a) (by omega) ⟨_,_,?_,a,mid,l1,true,ap,_,rfl,by omega,hz5,by omega,by omega,hl1,r8,rfl,rfl,hR3⟩
        (simp +decide only [go_sem,gcD_eq,gcIds_eq,refs_flatR f2,renR_flat _ f2,g0,g1,g2,g3,g8,g9]<;>rfl)<;>rfl
       ·have c7:¬ (((b - a) / 8:Nat):Int) ≤ ((b - mid:Nat):Int):=by omega
        rw [decide_eq_false h8] at hR3
        (repeat first|simp only [ww]|(apply xa;simp +decide only [go_sem,g0,g1,g2,g3,g10,g11,d1,d2,d3,d4,d5,i2,hl,s2,hls,k2,w3,w4,w5,w6,c6,c7,k3];rfl;kernel_rfl))
        refine lpJ_n (mid - a) (by omega) ⟨_,_,?_,a,mid,l1,false,ap,_,rfl,by omega,hz5,by omega,by omega,hl1,r8,rfl,rfl,hR3⟩
        (simp +decide only [go_sem,gcD_eq,gcIds_eq,refs_flatR f2,renR_flat _ f2,g0,g1,g2,g3,g8,g9]<;>rfl)<;>rfl
def intZ (x:Int):List AV:=[.int .i64 x]
def OneR (R:List (List AV)):Prop:=∀ r ∈ R,∃ x:Int,r = [AV.int .i64 x]
theorem OneR.flat {R:List (List AV)} (h:OneR R):FlatR R:=fun r hr=>by obtain ⟨x,rfl⟩:=h r hr;rfl
theorem OneR.app {A B:List (List AV)} (h:OneR A) (k:OneR B):OneR (A ++ B):=fun r hr=>(List.mem_append.1 hr).elim (h r) (k r)
theorem OneR.get {R:List (List AV)} (h:OneR R) {i:Nat} (hi:i < R.length):∃ x:Int,R[i]? = some [AV.int .i64 x]:=by
 obtain ⟨x,hx⟩:=h _ (List.getElem_mem hi)
 exact ⟨x,by rw [List.getElem?_eq_getElem hi,hx]⟩
theorem OneR.set {R:List (List AV)} (h:OneR R) (i:Nat) (x:Int):OneR (R.set i [.int .i64 x]):=fun r hr=>by
 rcases List.mem_or_eq_of_mem_set hr with h'|h'
 ·exact h r h'
 ·exact ⟨x,h'⟩
theorem OneR.drop {R:List (List AV)} (h:OneR R) (i:Nat):OneR (R.drop i):=fun r hr=>h r (List.mem_of_mem_drop hr)
theorem OneR.rep (n:Nat) (x:Int):OneR (List.replicate n [.int .i64 x]):=fun r hr=>⟨x,List.eq_of_mem_replicate hr⟩
theorem OneR.intz (l:List Int):OneR (l.map intZ):=fun r hr=>by obtain ⟨x,_,rfl⟩:=List.mem_map.1 hr;exact ⟨x,rfl⟩
theorem len_all:(List.range 129).map (fun (n:Nat)=>runFn L.env c1 9 66 [u64 (BitVec.ofInt 64 n)] []) = (List.range 129).map fun (n:Nat)=>some (.int .i64 (bitsLen n:Nat),[]):=by kernel_rfl
theorem len_ok (n:Nat) (h:n < 129):sem L.env Mf 66 [u64 (BitVec.ofInt 64 n)] [] = some (.int .i64 (bitsLen n:Nat),[]):=by
 have k:=congrArg (fun l=>l[n]?) len_all
 simp only [List.getElem?_map,List.getElem?_range h,Option.map_some,Option.some.injEq] at k
 exact sem_up c1_up (by decide) 9 k
theorem bl_lt (n:Nat) (h:n < 129):bitsLen n ≤ 1000:=by
 have hb:(List.range 129).all (fun n=>decide (bitsLen n ≤ 1000)) = true:=by kernel_rfl
 exact of_decide_eq_true (List.all_eq_true.1 hb n (List.mem_range.2 h))
/-- slices.Sort. -/
theorem sort_ok (n:Nat) (c:Option Nat) (d:Array Int) (rest:List (List AV)) (hrest:FlatR rest) (hn:n = d.size) (hn1:n ≤ 128) :
 sem L.env Mf 39 [.slice 0 0 n c] [some (.row 1 (rwA d ++ rest))] = some (.tuple [],[some (.row 1 (rwA (Go.Sort.sort ltInt d) ++ rest))]):=by
 have h0:oneOf [] = .tuple []:=rfl
 have f:=rwA_flatA (d:=d) hrest
 have hT:Go.Sort.sort ltInt d = pdq ltInt d 0 n (bitsLen n) true true:=by rw [hn];rfl
 have hlen:=fun H=>callV_flat (E:=L.env) (draw:=false) (call:=sem L.env Mf) (g:=66) (fs:=[]) (cs:=[]) (ar:=[u64 (BitVec.ofInt 64 n)]) (H:=H) (by kernel_rfl) (by kernel_rfl) rfl rfl (len_ok n (by omega)) rfl
 have k:=call0 (d:=false) (by kernel_rfl) (by kernel_rfl) f (rwA_flatA (d:=pdq ltInt d 0 n (bitsLen n) true true) hrest) rfl rfl rfl (pdq_ok n c rest hrest hn1 (n + 1) d 0 n (bitsLen n) (by omega) hn (Nat.zero_le _) (Nat.le_refl _) (bl_lt n (by omega)) (.inl rfl))
 simp only [Int.natCast_zero] at k
 rw [hT]
 have f2:=rwA_flatA (d:=pdq ltInt d 0 n (bitsLen n) true true) hrest
 (refine sv Tryd.f39 ?_;simp only [Tryd.f39,gS])
 (repeat first|simp only [ww]|(apply xa;simp +decide only [go_sem,hlen,k];rfl;kernel_rfl))
 (apply fqb;simp +decide only [go_sem,h0,renR_flat _ f2]<;>rfl)
theorem ins_0 (c:Option (Option Nat)):sem L.env Mf 76 [sl c [],.int .i64 0,.int .i64 0] [] = some (.tuple [],[]):=by
 have h0:oneOf [] = .tuple []:=rfl
 (refine sv Tryd.f76 ?_;simp only [Tryd.f76,gS])
 (repeat first|simp only [ww]|(apply xa;simp +decide only [go_sem];rfl;kernel_rfl))
 refine xp_lp kp76_0 (fun N F H=>F = [(0,sl c []),(1,.int .i64 0),(2,.int .i64 0),(6,.int .i64 1)] ∧ H = []) 0 ?_ ?_
 ·exact ⟨_,_,by (simp +decide only [go_sem,gcD_eq,gcIds_eq]<;>rfl)<;>rfl,rfl,rfl⟩
 ·rintro N F H ⟨rfl,rfl⟩
  (repeat first|simp only [ww]|(apply xa;simp +decide only [go_sem];rfl;kernel_rfl))
  (apply fqb;simp +decide only [go_sem,h0]<;>rfl)
theorem pdq_0 (c:Option (Option Nat)):sem L.env Mf 65 [sl c [],.int .i64 0,.int .i64 0,.int .i64 0] [] = some (.tuple [],[]):=by
 have h0:oneOf [] = .tuple []:=rfl
 have k:=callV_flat (E:=L.env) (draw:=false) (call:=sem L.env Mf) (g:=76) (fs:=[]) (cs:=[]) (ar:=[sl c [],.int .i64 0,.int .i64 0]) (H:=[]) (by kernel_rfl) (by kernel_rfl) rfl (by simp +decide only [go_sem]<;>rfl) (ins_0 c) rfl
 (refine sv Tryd.f65 ?_;simp only [Tryd.f65,gS])
 (repeat first|simp only [ww]|(apply xa;simp +decide only [go_sem];rfl;kernel_rfl))
 refine xp_lp kp65_0 (fun N F H=>F = [(0,sl c []),(1,.int .i64 0),(2,.int .i64 0),(3,.int .i64 0),(8,.bool true),(9,.bool true)] ∧ H = []) 0 ?_ ?_
 ·exact ⟨_,_,by (simp +decide only [go_sem,gcD_eq,gcIds_eq]<;>rfl)<;>rfl,rfl,rfl⟩
 ·rintro N F H ⟨rfl,rfl⟩
  (repeat first|simp only [ww]|(apply xa;simp +decide only [go_sem,k];rfl;kernel_rfl))
  (apply fqb;simp +decide only [go_sem,h0]<;>rfl)
theorem sort_0 (c:Option (Option Nat)):sem L.env Mf 39 [sl c []] [] = some (.tuple [],[]):=by
 have h0:oneOf [] = .tuple []:=rfl
 have hb:bitsLen 0 = 0:=rfl
 have hlen:=callV_flat (E:=L.env) (draw:=false) (call:=sem L.env Mf) (g:=66) (fs:=[]) (cs:=[]) (ar:=[u64 (BitVec.ofInt 64 (0:Nat))]) (H:=[]) (by kernel_rfl) (by kernel_rfl) rfl rfl (len_ok 0 (by omega)) rfl
 rw [hb] at hlen
 simp only [Int.natCast_zero] at hlen
 have k:=callV_flat (E:=L.env) (draw:=false) (call:=sem L.env Mf) (g:=65) (fs:=[]) (cs:=[]) (ar:=[sl c [],.int .i64 0,.int .i64 0,.int .i64 0]) (H:=[]) (by kernel_rfl) (by kernel_rfl) rfl (by simp +decide only [go_sem]<;>rfl) (pdq_0 c) rfl
 have e0:((0:Nat):Int) = 0:=rfl
 (refine sv Tryd.f39 ?_;simp only [Tryd.f39,gS])
 (repeat first|simp only [ww]|(apply xa;simp +decide only [go_sem,hlen,k,e0];rfl;kernel_rfl))
 (apply fqb;simp +decide only [go_sem,h0]<;>rfl)
theorem rwA_list (l:List Int):rwA l.toArray = l.map intZ:=rfl
theorem sortZ (l:List Int):rwA (Go.Sort.sort ltInt l.toArray) = (l.mergeSort fun x y=>decide (x ≤ y)).map intZ:=by
 have h:=Go.Sort.sortInt l
 unfold rwA
 rw [h];rfl
/-- slices.Compact. -/
theorem compact_ok (S:List Int) (rest:List (List AV)) (c:Option Nat) (hrest:OneR rest) (hS:S.length ≤ 1000) (hcc:∀ m,c = some m → S.length ≤ m) :
 ∃ r:AV × Heap,(∃ rest',OneR rest' ∧ r = (.slice 0 0 (dd S).length c,[some (.row 1 ((dd S).map intZ ++ rest'))])) ∧ sem L.env Mf 40 [.slice 0 0 S.length c] [some (.row 1 (S.map intZ ++ rest))] = some r:=by
 have hR1:OneR (S.map intZ ++ rest):=(OneR.intz S).app hrest
 have hR:∀ (j:Nat) (i:Int),S[j]? = some i → (S.map intZ ++ rest)[j]? = some [AV.int .i64 i]:=by
  intro j i h
  rw [List.getElem?_append_left (by simpa using (List.getElem?_eq_some_iff.1 h).1),List.getElem?_map,h];rfl
 have hRl:S.length ≤ (S.map intZ ++ rest).length:=by simp
 have hRt:(S.map intZ ++ rest).take S.length = S.map intZ:=by rw [List.take_append_of_le_length (by simp),List.take_of_length_le (by simp)]
 have hcl:clrT L.env 27 = some (1,[.int .i64 0]):=by kernel_rfl
 have hsame:dd S = S → ∃ rest',OneR rest' ∧ S.map intZ ++ rest = (dd S).map intZ ++ rest':=fun h=>⟨rest,hrest,by rw [h]⟩
 generalize hRR:S.map intZ ++ rest = R at hR1 hR hRl hRt hsame ⊢
 have hRr:=fun π=>renR_flat π hR1.flat
 have hR0:=refs_flatR hR1.flat
 by_cases h2:S.length < 2
 ·have d1:(S.length:Int) < 2:=by omega
  have hd:dd S = S:=by
   match S,h2 with
   | [],_=>rfl
   | [x],_=>rfl
  obtain ⟨rest',hr',he⟩:=hsame hd
  (refine svE Tryd.f40 ?_;simp only [Tryd.f40,gS])
  (repeat first|simp only [ww]|(apply xa;simp +decide only [go_sem,d1];rfl;kernel_rfl))
  (apply fqEb;(·simp +decide only [go_sem,hRr]<;>rfl))
  exact ⟨rest',hr',by rw [he,hd]⟩
 ·have d1:¬ (S.length:Int) < 2:=by omega
  (refine svE Tryd.f40 ?_;simp only [Tryd.f40,gS])
  (repeat first|simp only [ww]|(apply xa;simp +decide only [go_sem,d1];rfl;kernel_rfl))
  refine xp_loop3 (σ:=Nat) kp40_0 (fun k=>[(0,.slice 0 0 S.length c),(3,.int .i64 k)]) (fun k=>[some (.row 1 R)]) (fun k=>S.length - k) (fun k=>1 ≤ k ∧ k ≤ S.length ∧ dd (S.take k) = S.take k) 1 ?_ ⟨Nat.le_refl _,by omega,?_⟩ ?_
  ·(simp +decide only [go_sem,gcD_eq,gcIds_eq,hR0,hRr]<;>rfl)<;>rfl
  ·obtain ⟨x,l,rfl⟩:∃ x l,S = x :: l:=by
    cases S with
    | nil=>simp at h2
    | cons x l=>exact ⟨x,l,rfl⟩
   rfl
  ·rintro k ⟨hk1,hk2,hkd⟩
   by_cases hlt:k < S.length
   ·obtain ⟨j,rfl⟩:∃ j,k = j + 1:=⟨k - 1,by omega⟩
    obtain ⟨x,hx⟩:∃ x,S[j + 1]? = some x:=⟨_,List.getElem?_eq_getElem hlt⟩
    obtain ⟨y,hy⟩:∃ y,S[j]? = some y:=⟨_,List.getElem?_eq_getElem (by omega)⟩
    have hgx:=hR _ _ hx
    have hgy:=hR _ _ hy
    have d2:((j + 1:Nat):Int) < S.length:=by omega
    have hj:j < S.length:=by omega
    have hw:=wI1 (n:=j + 1) (by omega)
    have hwm:IntKind.i64.wrap (((j + 1:Nat):Int) - 1) = (j:Int):=by rw [w64 (by omega) (by omega)];omega
    have hdt:=dd_take hy hx
    by_cases hxy:x = y
    ·rw [if_pos hxy,hkd,List.append_nil] at hdt
     have d4:j + 1 ≤ S.length:=by omega
     have hcap:S.length ≤ capAtLeast S.length c:=by
      cases c with
      | none=>exact Nat.le_refl _
      | some m=>exact hcc m rfl
     have hcap2:j + 1 ≤ capAtLeast S.length c:=by omega
     (repeat first|simp only [ww]|(apply xa;simp +decide only [go_sem,d2,hlt,hj,hRl,hgx,hgy,hw,hwm,hxy,d4,hcap,hcap2];rfl;kernel_rfl))
     obtain ⟨m,hm⟩:∃ m,m = S.length - (j + 1):=⟨_,rfl⟩
     refine xp_lp kp40_2 (fun N F H=>∃ (k q:Nat) (R':List (List AV)),N = m - q ∧ F = [(0,.slice 0 0 S.length c),(3,.int .i64 k),(4,.slice 0 (j + 1) (S.length - (j + 1)) (c.map fun m=>m - (j + 1))),(5,.int .i64 q)] ∧ H = [some (.row 1 R')] ∧ 1 ≤ q ∧ q ≤ m ∧ k < j + 1 + q ∧ R'.length = R.length ∧ OneR R' ∧
      R'.take k = (dd (S.take (j + 1 + q))).map intZ ∧ (dd (S.take (j + 1 + q))).length = k ∧ ∀ x,k ≤ x → R'[x]? = R[x]?) (m - 1) ?_ ?_
     ·refine ⟨_,_,by (simp +decide only [go_sem,gcD_eq,gcIds_eq,hR0,hRr]<;>rfl)<;>rfl,j + 1,1,R,rfl,rfl,rfl,Nat.le_refl _,by omega,by omega,rfl,hR1,?_,?_,fun _ _=>rfl⟩
      ·rw [hdt,List.map_take,← hRt,List.take_take,Nat.min_eq_left (by omega)]
      ·rw [hdt,List.length_take];omega
     ·rintro N F1 H1 ⟨k,q,R',rfl,rfl,rfl,hq1,hq2,hkq,hRl',hR1',hRt',hkl,hRx⟩
      have hRr':=fun π=>renR_flat π hR1'.flat
      have hR0':=refs_flatR hR1'.flat
      by_cases hqm:q < m
      ·obtain ⟨u,hu⟩:∃ u,S[j + 1 + q]? = some u:=⟨_,List.getElem?_eq_getElem (by omega)⟩
       obtain ⟨v,hv⟩:∃ v,S[j + q]? = some v:=⟨_,List.getElem?_eq_getElem (by omega)⟩
       have hgu:R'[j + 1 + q]? = some [AV.int .i64 u]:=by rw [hRx _ (by omega)];exact hR _ _ hu
       have hgv:R'[j + 1 + (q - 1)]? = some [AV.int .i64 v]:=by rw [show j + 1 + (q - 1) = j + q by omega,hRx _ (by omega)];exact hR _ _ hv
       have c1:(q:Int) < (S.length - (j + 1):Nat):=by omega
       have c2:q < S.length - (j + 1):=by omega
       have c3:q - 1 < S.length - (j + 1):=by omega
       have c4:j + 1 + (S.length - (j + 1)) ≤ R'.length:=by omega
       have hwq:=wI1 (n:=q) (by omega)
       have hwq1:IntKind.i64.wrap ((q:Int) - 1) = ((q - 1:Nat):Int):=by rw [w64 (by omega) (by omega)];omega
       have hdq:dd (S.take (j + 1 + (q + 1))) = dd (S.take (j + 1 + q)) ++ if u = v then [] else [u]:=by
        rw [show j + 1 + (q + 1) = j + q + 2 by omega,show j + 1 + q = j + q + 1 by omega]
        exact dd_take hv (by rw [show j + q + 1 = j + 1 + q by omega];exact hu)
       by_cases huv:u = v
       ·rw [if_pos huv,List.append_nil] at hdq
        (repeat first|simp only [ww]|(apply xa;simp +decide only [go_sem,c1,c2,c3,c4,hgu,hgv,hwq,hwq1,huv];rfl;kernel_rfl))
        refine lpJ_n (m - (q + 1)) (by omega) ⟨_,_,by (simp +decide only [go_sem,gcD_eq,gcIds_eq,hR0',hRr']<;>rfl)<;>rfl,k,q + 1,R',rfl,rfl,rfl,by omega,by omega,by omega,hRl',hR1',by rw [hdq];exact hRt',by rw [hdq];exact hkl,hRx⟩
       ·rw [if_neg huv] at hdq
        have c5:k < S.length:=by omega
        have c6:S.length ≤ R'.length:=by omega
        have hwk:=wI1 (n:=k) (by omega)
        have hR2:=hR1'.set k u
        have hRr2:=fun π=>renR_flat π hR2.flat
        have hR02:=refs_flatR hR2.flat
        obtain ⟨y0,hgk⟩:=hR1'.get (i:=k) (by omega)
        (repeat first|simp only [ww]|(apply xa;simp +decide only [go_sem,c1,c2,c3,c4,hgu,hgv,hwq,hwq1,huv,c5,c6,hwk,hgk];rfl;kernel_rfl))
        refine lpJ_n (m - (q + 1)) (by omega) ⟨_,_,by (simp +decide only [go_sem,gcD_eq,gcIds_eq,hR02,hRr2]<;>rfl)<;>rfl,k + 1,q + 1,_,rfl,rfl,rfl,by omega,by omega,by omega,by rw [List.length_set];exact hRl',hR2,?_,?_,fun x hx=>by rw [List.getElem?_set_ne (by omega)];exact hRx x (by omega)⟩
        ·rw [hdq,List.take_add_one,List.getElem?_set_self (by omega),List.take_set_of_le (Nat.le_refl k),hRt',List.map_append];rfl
        ·rw [hdq,List.length_append,hkl];rfl
      ·obtain rfl:q = m:=by omega
       have c1:¬ (q:Int) < (S.length - (j + 1):Nat):=by omega
       have c2:¬ S.length - k = 0:=by omega
       have c3:k + (S.length - k) ≤ R'.length:=by omega
       have c4:k ≤ S.length:=by omega
       have c5:k ≤ capAtLeast S.length c:=by omega
       have hall:S.take (j + 1 + q) = S:=List.take_of_length_le (by omega)
       rw [hall] at hRt' hkl
       have hrest2:OneR (List.replicate (S.length - k) [AV.int .i64 0] ++ R'.drop (k + (S.length - k))):=(OneR.rep _ _).app (hR1'.drop _)
       (repeat first|simp only [ww]|(apply xa;simp +decide only [go_sem,c1,c2,c3,c4,c5,hcl,hcap,hRt',List.append_assoc];rfl;kernel_rfl))
       have hfin:=fun π=>renR_flat π ((OneR.intz (dd S)).app hrest2).flat
       (apply fqEb;(·simp +decide only [go_sem,hfin]<;>rfl))
       exact ⟨_,hrest2,by rw [hkl]⟩
    ·rw [if_neg hxy,hkd] at hdt
     (repeat first|simp only [ww]|(apply xa;simp +decide only [go_sem,d2,hlt,hj,hRl,hgx,hgy,hw,hwm,hxy];rfl;kernel_rfl))
     refine lp_n (j + 1 + 1) ?_ (by omega) ⟨by omega,by omega,?_⟩
     ·(simp +decide only [go_sem,gcD_eq,gcIds_eq,hR0,hRr]<;>rfl)<;>rfl
     ·rw [hdt,tk_snoc hx]
   ·obtain rfl:k = S.length:=by omega
    have d2:¬ (S.length:Int) < S.length:=by omega
    rw [List.take_length] at hkd
    obtain ⟨rest',hr',he⟩:=hsame hkd
    (repeat first|simp only [ww]|(apply xa;simp +decide only [go_sem,d2];rfl;kernel_rfl))
    (apply fqEb;(·simp +decide only [go_sem,hRr]<;>rfl))
    exact ⟨rest',hr',by rw [he,hkd]⟩
end Go.KInst
