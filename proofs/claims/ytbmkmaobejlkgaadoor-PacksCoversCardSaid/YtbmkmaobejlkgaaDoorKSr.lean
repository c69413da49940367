/- Part of a proof. No condition. -/
import Derived.Test.YtbmkmaobejlkgaaDoorKBase
import Derived.Test.YtbmkmaobejlkgaaDoorAxF
import Derived.Test.YtbmkmaobejlkgaaDoorPcP
set_option linter.unusedSimpArgs false
set_option linter.unusedVariables false
namespace Go.KInst
open Go.Proofs Go.Ax Go.Pc Go.Sort
set_option maxRecDepth 100000
theorem isnanS_ok (x:Int):sem L.env Mf 97 [.int .i64 x] [] = some (.bool false,[]):=by
 (refine sv Tryd.f97 ?_;simp only [Tryd.f97,gS])
 (repeat first|simp only [ww]|(apply xa;simp +decide only [go_sem];rfl;kernel_rfl))
 (apply fqb;simp +decide only [go_sem]<;>rfl)
theorem less_ok (x y:Int):sem L.env Mf 82 [.int .i64 x,.int .i64 y] [] = some (.bool (ltInt x y),[]):=by
 have hn:=fun (d:Bool) H x=>callV_flat (E:=L.env) (draw:=d) (call:=sem L.env Mf) (g:=97) (fs:=[]) (cs:=[]) (ar:=[.int .i64 x]) (H:=H) (by kernel_rfl) (by kernel_rfl) rfl rfl (isnanS_ok x) rfl
 have hl:ltInt x y = decide (x < y):=rfl
 (refine sv Tryd.f82 ?_;simp only [Tryd.f82,gS])
 (repeat first|simp only [ww]|(apply xa;simp +decide only [go_sem,hn];rfl;kernel_rfl))
 (apply fqb;simp +decide only [go_sem,hl]<;>rfl)
theorem less_call {d:Bool} (H:Heap) (x y:Int):callV L.env d (sem L.env Mf) (.func (.func 82) [] []) [.int .i64 x,.int .i64 y] H = some (.bool (ltInt x y),H,[]):=
 callV_flat (by kernel_rfl) (by kernel_rfl) rfl rfl (less_ok x y) rfl
/-- slices.insertionSortOrdered. -/
theorem ins_ok (n:Nat) (c:Option Nat) (d:Array Int) (rest:List (List AV)) (a b:Nat) (hrest:FlatR rest) (hn:n = d.size) (hab:a ≤ b) (hb:b ≤ n) (hn1:n ≤ 1000) :
 sem L.env Mf 76 [.slice 0 0 n c,.int .i64 a,.int .i64 b] [some (.row 1 (rwA d ++ rest))] = some (.tuple [],[some (.row 1 (rwA (insertionSort ltInt d a b) ++ rest))]):=by
 have hls:=fun d' H x y=>less_call (d:=d') H x y
 have h0:oneOf [] = .tuple []:=rfl
 have hwa:=wI1 (n:=a) (by omega)
 (refine sv Tryd.f76 ?_;simp only [Tryd.f76,gS])
 (repeat first|simp only [ww]|(apply xa;simp +decide only [go_sem,hwa];rfl;kernel_rfl))
 refine xp_lp kp76_0 (fun N F H=>∃ (i:Nat) (e:Array Int),N = b - i ∧ a < i ∧ e.size = n ∧ F = [(0,.slice 0 0 n c),(1,.int .i64 a),(2,.int .i64 b),(6,.int .i64 i)] ∧ H = [some (.row 1 (rwA e ++ rest))] ∧ insOuter ltInt a b i e = insertionSort ltInt d a b) (b - (a + 1)) ?_ ?_
 ·refine ⟨_,_,?_,a + 1,d,rfl,Nat.lt_succ_self _,hn.symm,rfl,rfl,rfl⟩
  have f:=rwA_flatA (d:=d) hrest
  (simp +decide only [go_sem,gcD_eq,gcIds_eq,refs_flatR f,renR_flat _ f]<;>rfl)<;>rfl
 ·rintro N F H ⟨i,e,rfl,hai,he,rfl,rfl,hT⟩
  by_cases hib:i < b
  ·have c1:(i:Int) < b:=by omega
   have hwi:=wI1 (n:=i) (by omega)
   have hT2:insOuter ltInt a b (i + 1) (insInner ltInt a i e) = insertionSort ltInt d a b:=by rw [← hT,insOuter_E a b i,if_pos hib]
   (repeat first|simp only [ww]|(apply xa;simp +decide only [go_sem,c1];rfl;kernel_rfl))
   refine xp_lp kp76_2 (fun N F H=>∃ (j:Nat) (e':Array Int),N = j + 1 ∧ j ≤ i ∧ e'.size = n ∧ F = [(0,.slice 0 0 n c),(1,.int .i64 a),(2,.int .i64 b),(6,.int .i64 i),(7,.int .i64 j)] ∧ H = [some (.row 1 (rwA e' ++ rest))] ∧ insInner ltInt a j e' = insInner ltInt a i e) (i + 1) ?_ ?_
   ·refine ⟨_,_,?_,i,e,rfl,Nat.le_refl _,he,rfl,rfl,rfl⟩
    have f:=rwA_flatA (d:=e) hrest
    (simp +decide only [go_sem,gcD_eq,gcIds_eq,refs_flatR f,renR_flat _ f]<;>rfl)<;>rfl
   ·rintro N F H ⟨j,e',rfl,hji,he',rfl,rfl,hI⟩
    have f:=rwA_flatA (d:=e') hrest
    have hl:n ≤ (rwA e' ++ rest).length:=by rw [List.length_append,rwA_len];omega
    by_cases hja:a < j
    ·obtain ⟨q,rfl⟩:∃ q,j = q + 1:=⟨j - 1,by omega⟩
     have d1:(a:Int) < ((q + 1:Nat):Int):=by omega
     have hwq:IntKind.i64.wrap (((q + 1:Nat):Int) - 1) = (q:Int):=by rw [w64 (by omega) (by omega)];omega
     have hq1:q + 1 < n:=by omega
     have hq0:q < n:=by omega
     have g1:=rwA_get (d:=e') (rest:=rest) (i:=q + 1) (by omega)
     have g0:=rwA_get (d:=e') (rest:=rest) (i:=q) (by omega)
     have hs:=rwA_swp (d:=e') (rest:=rest) (i:=q + 1) (j:=q) (by omega) (by omega)
     have hls2:∀ x,((rwA e' ++ rest).set (q + 1) x).length = (rwA e' ++ rest).length:=fun x=>List.length_set
     rw [insInner_S] at hI
     cases hlt:ltInt e'[q + 1]! e'[q]! with
     | true=>
      rw [if_pos (by simp [hja,hlt])] at hI
      obtain ⟨y,hg2⟩:=rwA_get2 (d:=e') (rest:=rest) (i:=q + 1) (j:=q) (x:=e'[q]!) (by omega) (by omega)
      (repeat first|simp only [ww]|(apply xa;simp +decide only [go_sem,d1,hwq,hq1,hq0,hl,hls2,g1,g0,hls,hlt,hg2,hs];rfl;kernel_rfl))
      refine lpJ_n (q + 1) (by omega) ⟨_,_,?_,q,_,rfl,by omega,by rw [swp_size];exact he',rfl,rfl,hI⟩
      have f2:=rwA_flatA (d:=swp e' (q + 1) q) hrest
      (simp +decide only [go_sem,gcD_eq,gcIds_eq,refs_flatR f2,renR_flat _ f2]<;>rfl)<;>rfl
     | false=>
      rw [if_neg (by simp [hlt])] at hI
      (repeat first|simp only [ww]|(apply xa;simp +decide only [go_sem,d1,hwq,hq1,hq0,hl,g1,g0,hls,hlt,hwi];rfl;kernel_rfl))
      refine lpJ_n (b - (i + 1)) (by omega) ⟨_,_,?_,i + 1,e',rfl,by omega,he',rfl,rfl,by rw [hI];exact hT2⟩
      (simp +decide only [go_sem,gcD_eq,gcIds_eq,refs_flatR f,renR_flat _ f]<;>rfl)<;>rfl
    ·have d1:¬ (a:Int) < j:=by omega
     have hI2:insInner ltInt a j e' = e':=by
      cases j with
      | zero=>rfl
      | succ q=>rw [insInner_S,if_neg (by simp;omega)]
     rw [hI2] at hI
     (repeat first|simp only [ww]|(apply xa;simp +decide only [go_sem,d1,hwi];rfl;kernel_rfl))
     refine lpJ_n (b - (i + 1)) (by omega) ⟨_,_,?_,i + 1,e',rfl,by omega,he',rfl,rfl,by rw [hI];exact hT2⟩
     (simp +decide only [go_sem,gcD_eq,gcIds_eq,refs_flatR f,renR_flat _ f]<;>rfl)<;>rfl
  ·have c1:¬ (i:Int) < b:=by omega
   have hT2:insOuter ltInt a b i e = e:=by rw [insOuter_E,if_neg hib]
   rw [hT2] at hT
   have f:=rwA_flatA (d:=e) hrest
   (repeat first|simp only [ww]|(apply xa;simp +decide only [go_sem,c1];rfl;kernel_rfl))
   rw [← hT]
   (apply fqb;simp +decide only [go_sem,h0,renR_flat _ f]<;>rfl)
theorem bk_10 (Q:Post) (F:Frm) (H:Heap):bk 1 Q (.exit 0) F H = Q (.exit 0) F H:=rfl
/-- slices.siftDownOrdered. -/
theorem sift_ok (n:Nat) (c:Option Nat) (d:Array Int) (rest:List (List AV)) (lo hi fi:Nat) (hrest:FlatR rest) (hn:n = d.size) (hb:fi + hi ≤ n) (hn1:n ≤ 1000) (hlo:lo ≤ 1000) :
 sem L.env Mf 92 [.slice 0 0 n c,.int .i64 lo,.int .i64 hi,.int .i64 fi] [some (.row 1 (rwA d ++ rest))] = some (.tuple [],[some (.row 1 (rwA (siftDown ltInt hi fi lo d) ++ rest))]):=by
 have hls:=fun d' H x y=>less_call (d:=d') H x y
 have h0:oneOf [] = .tuple []:=rfl
 (refine sv Tryd.f92 ?_;simp only [Tryd.f92,gS])
 (repeat first|simp only [ww]|(apply xa;simp +decide only [go_sem];rfl;kernel_rfl))
 refine xp_lp kp92_0 (fun N F H=>∃ (r:Nat) (e:Array Int),N = hi - r ∧ e.size = n ∧ F = [(0,.slice 0 0 n c),(2,.int .i64 hi),(3,.int .i64 fi),(8,.int .i64 r)] ∧ H = [some (.row 1 (rwA e ++ rest))] ∧ siftDown ltInt hi fi r e = siftDown ltInt hi fi lo d ∧ r ≤ 1000) (hi - lo) ?_ ?_
 ·refine ⟨_,_,?_,lo,d,rfl,hn.symm,rfl,rfl,rfl,hlo⟩
  have f:=rwA_flatA (d:=d) hrest
  (simp +decide only [go_sem,gcD_eq,gcIds_eq,refs_flatR f,renR_flat _ f]<;>rfl)<;>rfl
 ·rintro N F H ⟨r,e,rfl,he,rfl,rfl,hT,hr⟩
  have f:=rwA_flatA (d:=e) hrest
  have hl:n ≤ (rwA e ++ rest).length:=by rw [List.length_append,rwA_len];omega
  have hls2:∀ i x,((rwA e ++ rest).set i x).length = (rwA e ++ rest).length:=fun i x=>List.length_set
  have hw1:IntKind.i64.wrap (2 * (r:Int)) = ((2 * r:Nat):Int):=by rw [w64 (by omega) (by omega)];omega
  have hw2:IntKind.i64.wrap (((2 * r:Nat):Int) + 1) = ((2 * r + 1:Nat):Int):=by rw [w64 (by omega) (by omega)];omega
  have hw3:IntKind.i64.wrap (((2 * r + 1:Nat):Int) + 1) = ((2 * r + 2:Nat):Int):=by rw [w64 (by omega) (by omega)];omega
  rw [siftDown_E hi fi r] at hT
  by_cases c1:2 * r + 1 ≥ hi
  ·rw [if_pos c1] at hT
   have d1:(hi:Int) ≤ ((2 * r + 1:Nat):Int):=by omega
   (repeat first|simp only [ww]|(apply xa;simp +decide only [go_sem,hw1,hw2,d1];rfl;kernel_rfl))
   rw [bk_10]
   (repeat first|simp only [ww]|(apply xa;simp +decide only [go_sem];rfl;kernel_rfl))
   rw [← hT]
   (apply fqb;simp +decide only [go_sem,h0,renR_flat _ f]<;>rfl)
  ·rw [if_neg c1] at hT
   have d1:¬ (hi:Int) ≤ ((2 * r + 1:Nat):Int):=by omega
   have g0:=rwA_get (d:=e) (rest:=rest) (i:=fi + r) (by omega)
   have k0:fi + r < n:=by omega
   have w0:IntKind.i64.wrap ((fi:Int) + (r:Int)) = ((fi + r:Nat):Int):=by rw [w64 (by omega) (by omega)];omega
   have g1:=rwA_get (d:=e) (rest:=rest) (i:=fi + (2 * r + 1)) (by omega)
   have k1:fi + (2 * r + 1) < n:=by omega
   have w1:IntKind.i64.wrap ((fi:Int) + ((2 * r + 1:Nat):Int)) = ((fi + (2 * r + 1):Nat):Int):=by rw [w64 (by omega) (by omega)];omega
   by_cases c2:2 * r + 2 < hi
   ·have d2:((2 * r + 2:Nat):Int) < hi:=by omega
    have g3:=rwA_get (d:=e) (rest:=rest) (i:=fi + (2 * r + 1) + 1) (by omega)
    have k3:fi + (2 * r + 1) + 1 < n:=by omega
    have w3:IntKind.i64.wrap (((fi + (2 * r + 1):Nat):Int) + 1) = ((fi + (2 * r + 1) + 1:Nat):Int):=by rw [w64 (by omega) (by omega)];omega
    cases hl1:ltInt e[fi + (2 * r + 1)]! e[fi + (2 * r + 1) + 1]! with
    | true=>
     simp only [show 2 * r + 1 + 1 < hi from c2,hl1,decide_true,Bool.and_self,if_true] at hT
     have g2:=rwA_get (d:=e) (rest:=rest) (i:=fi + (2 * r + 2)) (by omega)
     have k2:fi + (2 * r + 2) < n:=by omega
     have w2:IntKind.i64.wrap ((fi:Int) + ((2 * r + 2:Nat):Int)) = ((fi + (2 * r + 2):Nat):Int):=by rw [w64 (by omega) (by omega)];omega
     cases hl2:ltInt e[fi + r]! e[fi + (2 * r + 2)]! with
     | false=>
      simp only [hl2,Bool.not_false,if_true] at hT
      (repeat first|simp only [ww]|(apply xa;simp +decide only [go_sem,hw1,hw2,hw3,hl,hls,d1,d2,g1,g3,k1,k3,w1,w3,hl1,g0,g2,k0,k2,w0,w2,hl2];rfl;kernel_rfl))
      rw [← hT]
      (apply fqb;simp +decide only [go_sem,h0,renR_flat _ f]<;>rfl)
     | true=>
      simp only [hl2,Bool.not_true,Bool.false_eq_true,if_false] at hT
      have hs:=rwA_swp (d:=e) (rest:=rest) (i:=fi + r) (j:=fi + (2 * r + 2)) (by omega) (by omega)
      obtain ⟨y,hg3⟩:=rwA_get2 (d:=e) (rest:=rest) (i:=fi + r) (j:=fi + (2 * r + 2)) (x:=e[fi + (2 * r + 2)]!) (by omega) (by omega)
      (repeat first|simp only [ww]|(apply xa;simp +decide only [go_sem,hw1,hw2,hw3,hl,hls,d1,d2,g1,g3,k1,k3,w1,w3,hl1,g0,g2,k0,k2,w0,w2,hl2,hls2,hg3,hs];rfl;kernel_rfl))
      refine lpJ_n (hi - (2 * r + 2)) (by omega) ⟨_,_,?_,2 * r + 2,_,rfl,by rw [swp_size];exact he,rfl,rfl,hT,by omega⟩
      have f2:=rwA_flatA (d:=swp e (fi + r) (fi + (2 * r + 2))) hrest
      (simp +decide only [go_sem,gcD_eq,gcIds_eq,refs_flatR f2,renR_flat _ f2]<;>rfl)<;>rfl
    | false=>
     simp only [hl1,Bool.and_false,Bool.false_eq_true,if_false] at hT
     have g2:=rwA_get (d:=e) (rest:=rest) (i:=fi + (2 * r + 1)) (by omega)
     have k2:fi + (2 * r + 1) < n:=by omega
     have w2:IntKind.i64.wrap ((fi:Int) + ((2 * r + 1:Nat):Int)) = ((fi + (2 * r + 1):Nat):Int):=by rw [w64 (by omega) (by omega)];omega
     cases hl2:ltInt e[fi + r]! e[fi + (2 * r + 1)]! with
     | false=>
      simp only [hl2,Bool.not_false,if_true] at hT
      (repeat first|simp only [ww]|(apply xa;simp +decide only [go_sem,hw1,hw2,hw3,hl,hls,d1,d2,g1,g3,k1,k3,w1,w3,hl1,g0,g2,k0,k2,w0,w2,hl2];rfl;kernel_rfl))
      rw [← hT]
      (apply fqb;simp +decide only [go_sem,h0,renR_flat _ f]<;>rfl)
     | true=>
      simp only [hl2,Bool.not_true,Bool.false_eq_true,if_false] at hT
      have hs:=rwA_swp (d:=e) (rest:=rest) (i:=fi + r) (j:=fi + (2 * r + 1)) (by omega) (by omega)
      obtain ⟨y,hg3⟩:=rwA_get2 (d:=e) (rest:=rest) (i:=fi + r) (j:=fi + (2 * r + 1)) (x:=e[fi + (2 * r + 1)]!) (by omega) (by omega)
      (repeat first|simp only [ww]|(apply xa;simp +decide only [go_sem,hw1,hw2,hw3,hl,hls,d1,d2,g1,g3,k1,k3,w1,w3,hl1,g0,g2,k0,k2,w0,w2,hl2,hls2,hg3,hs];rfl;kernel_rfl))
      refine lpJ_n (hi - (2 * r + 1)) (by omega) ⟨_,_,?_,2 * r + 1,_,rfl,by rw [swp_size];exact he,rfl,rfl,hT,by omega⟩
      have f2:=rwA_flatA (d:=swp e (fi + r) (fi + (2 * r + 1))) hrest
      (simp +decide only [go_sem,gcD_eq,gcIds_eq,refs_flatR f2,renR_flat _ f2]<;>rfl)<;>rfl
   ·have d2:¬ ((2 * r + 2:Nat):Int) < hi:=by omega
    simp only [show ¬ 2 * r + 1 + 1 < hi from c2,decide_false,Bool.false_and,Bool.false_eq_true,if_false] at hT
    have g2:=rwA_get (d:=e) (rest:=rest) (i:=fi + (2 * r + 1)) (by omega)
    have k2:fi + (2 * r + 1) < n:=by omega
    have w2:IntKind.i64.wrap ((fi:Int) + ((2 * r + 1:Nat):Int)) = ((fi + (2 * r + 1):Nat):Int):=by rw [w64 (by omega) (by omega)];omega
    cases hl2:ltInt e[fi + r]! e[fi + (2 * r + 1)]! with
    | false=>
     simp only [hl2,Bool.not_false,if_true] at hT
     (repeat first|simp only [ww]|(apply xa;simp +decide only [go_sem,hw1,hw2,hw3,hl,hls,d1,d2,g0,g2,k0,k2,w0,w2,hl2];rfl;kernel_rfl))
     rw [← hT]
     (apply fqb;simp +decide only [go_sem,h0,renR_flat _ f]<;>rfl)
    | true=>
     simp only [hl2,Bool.not_true,Bool.false_eq_true,if_false] at hT
     have hs:=rwA_swp (d:=e) (rest:=rest) (i:=fi + r) (j:=fi + (2 * r + 1)) (by omega) (by omega)
     obtain ⟨y,hg3⟩:=rwA_get2 (d:=e) (rest:=rest) (i:=fi + r) (j:=fi + (2 * r + 1)) (x:=e[fi + (2 * r + 1)]!) (by omega) (by omega)
     (repeat first|simp only [ww]|(apply xa;simp +decide only [go_sem,hw1,hw2,hw3,hl,hls,d1,d2,g0,g2,k0,k2,w0,w2,hl2,hls2,hg3,hs];rfl;kernel_rfl))
     refine lpJ_n (hi - (2 * r + 1)) (by omega) ⟨_,_,?_,2 * r + 1,_,rfl,by rw [swp_size];exact he,rfl,rfl,hT,by omega⟩
     have f2:=rwA_flatA (d:=swp e (fi + r) (fi + (2 * r + 1))) hrest
     (simp +decide only [go_sem,gcD_eq,gcIds_eq,refs_flatR f2,renR_flat _ f2]<;>rfl)<;>rfl
/-- A call over the one block. -/
theorem call0 {d:Bool} {g:FuncId} {args:List AV} {R R':List (List AV)} {v:AV} (hx:L.env.ext g = false) (hf:(L.env.fn g).isSome = true) (hR:FlatR R) (hR':FlatR R') (ha:refsL args = [0]) (hm:args.map (ren (piOf [0])) = args) (hv:ren (backOf [0] 1) v = v)
 (h:sem L.env Mf g args [some (.row 1 R)] = some (v,[some (.row 1 R')])):callV L.env d (sem L.env Mf) (.func (.func g) [] []) args [some (.row 1 R)] = some (v,[some (.row 1 R')],[0]):=
 callV_one' (E:=L.env) (draw:=d) (call:=sem L.env Mf) (fs:=[]) (cs:=[]) (ar:=args) (H:=[some (.row 1 R)]) (b:=0) hx hf (by simp) rfl (refsO_flat hR) (FlatO.row hR) ha hm h (FlatO.row hR') hv
theorem sift_call {d':Bool} (n:Nat) (c:Option Nat) (d:Array Int) (rest:List (List AV)) (lo hi fi:Nat) (hrest:FlatR rest) (hn:n = d.size) (hb:fi + hi ≤ n) (hn1:n ≤ 1000) (hlo:lo ≤ 1000) :
 callV L.env d' (sem L.env Mf) (.func (.func 92) [] []) [.slice 0 0 n c,.int .i64 lo,.int .i64 hi,.int .i64 fi] [some (.row 1 (rwA d ++ rest))] = some (.tuple [],[some (.row 1 (rwA (siftDown ltInt hi fi lo d) ++ rest))],[0]):=
 call0 (by kernel_rfl) (by kernel_rfl) (rwA_flatA hrest) (rwA_flatA hrest) rfl rfl rfl (sift_ok n c d rest lo hi fi hrest hn hb hn1 hlo)
theorem sift_size (hi fi:Nat):∀ (m r:Nat) (d:Array Int),hi - r ≤ m → (siftDown ltInt hi fi r d).size = d.size
 | 0,r,d,h=>by rw [siftDown_E,if_pos (by omega)]
 | m + 1,r,d,h=>by
  rw [siftDown_E]
  by_cases c1:2 * r + 1 ≥ hi
  ·rw [if_pos c1]
  ·rw [if_neg c1]
   split
   ·split
    ·rfl
    ·split
     ·rw [sift_size hi fi m _ _ (by omega),swp_size]
     ·rfl
   ·split
    ·rfl
    ·rw [sift_size hi fi m _ _ (by omega),swp_size]
/-- slices.heapSortOrdered. -/
theorem heap_ok (n:Nat) (c:Option Nat) (d:Array Int) (rest:List (List AV)) (a b:Nat) (hrest:FlatR rest) (hn:n = d.size) (hab:a + 12 < b) (hb:b ≤ n) (hn1:n ≤ 1000) :
 sem L.env Mf 77 [.slice 0 0 n c,.int .i64 a,.int .i64 b] [some (.row 1 (rwA d ++ rest))] = some (.tuple [],[some (.row 1 (rwA (heapSort ltInt d a b) ++ rest))]):=by
 have h0:oneOf [] = .tuple []:=rfl
 obtain ⟨h,hh⟩:∃ h,b = a + h:=⟨b - a,by omega⟩
 have hT:heapSort ltInt d a b = heapPop ltInt a h (heapBuild ltInt h a ((h - 1) / 2 + 1) d):=by unfold heapSort;rw [show b - a = h by omega]
 have hw1:IntKind.i64.wrap ((b:Int) - a) = (h:Int):=by rw [w64 (by omega) (by omega)];omega
 have hw2:IntKind.i64.wrap ((h:Int) - 1) = ((h - 1:Nat):Int):=by rw [w64 (by omega) (by omega)];omega
 have hw3:IntKind.i64.wrap (((h - 1) / 2:Nat):Int) = ((h - 1) / 2:Nat):=w64 (by omega) (by omega)
 rw [hT]
 (refine sv Tryd.f77 ?_;simp only [Tryd.f77,gS])
 (repeat first|simp only [ww]|(apply xa;simp +decide only [go_sem,hw1,hw2,hw3];rfl;kernel_rfl))
 refine xp_lp kp77_0 (fun N F H=>∃ (k:Nat) (e:Array Int),N = k + 1 ∧ k ≤ h ∧ e.size = n ∧ F = [(0,.slice 0 0 n c),(6,.int .i64 a),(7,.int .i64 0),(8,.int .i64 h),(9,.int .i64 ((k:Int) - 1))] ∧ H = [some (.row 1 (rwA e ++ rest))] ∧ heapBuild ltInt h a k e = heapBuild ltInt h a ((h - 1) / 2 + 1) d) ((h - 1) / 2 + 2) ?_ ?_
 ·have f:=rwA_flatA (d:=d) hrest
  have e1:((((h - 1) / 2 + 1:Nat):Int) - 1) = (((h - 1) / 2:Nat):Int):=by omega
  refine ⟨[(0,.slice 0 0 n c),(6,.int .i64 a),(7,.int .i64 0),(8,.int .i64 h),(9,.int .i64 (((h - 1) / 2:Nat):Int))],[some (.row 1 (rwA d ++ rest))],by (simp +decide only [go_sem,gcD_eq,gcIds_eq,refs_flatR f,renR_flat _ f]<;>rfl)<;>rfl,(h - 1) / 2 + 1,d,rfl,by omega,hn.symm,by rw [e1],rfl,rfl⟩
 ·rintro N F H ⟨k,e,rfl,hk,he,rfl,rfl,hB⟩
  have f:=rwA_flatA (d:=e) hrest
  cases k with
  | succ q=>
   have e1:(((q + 1:Nat):Int) - 1) = (q:Int):=by omega
   have d1:(0:Int) ≤ q:=by omega
   have hw4:IntKind.i64.wrap ((q:Int) - 1) = (q:Int) - 1:=w64 (by omega) (by omega)
   have hs:=sift_call (d':=false) n c e rest q h a hrest he.symm (by omega) hn1 (by omega)
   have f2:=rwA_flatA (d:=siftDown ltInt h a q e) hrest
   rw [e1]
   (repeat first|simp only [ww]|(apply xa;simp +decide only [go_sem,d1,hs,hw4];rfl;kernel_rfl))
   refine lpJ_n (q + 1) (by omega) ⟨_,_,?_,q,_,rfl,by omega,by rw [sift_size h a (h - q) q e (Nat.le_refl _)];exact he,rfl,rfl,hB⟩
   (simp +decide only [go_sem,gcD_eq,gcIds_eq,refs_flatR f2,renR_flat _ f2]<;>rfl)<;>rfl
  | zero=>
   have hB:e = heapBuild ltInt h a ((h - 1) / 2 + 1) d:=hB
   have d1:¬ (0:Int) ≤ ((0:Nat):Int) - 1:=by omega
   rw [← hB]
   (repeat first|simp only [ww]|(apply xa;simp +decide only [go_sem,d1,hw2];rfl;kernel_rfl))
   refine xp_lp kp77_2 (fun N F H=>∃ (k:Nat) (e':Array Int),N = k + 1 ∧ k ≤ h ∧ e'.size = n ∧ F = [(0,.slice 0 0 n c),(6,.int .i64 a),(7,.int .i64 0),(10,.int .i64 ((k:Int) - 1))] ∧ H = [some (.row 1 (rwA e' ++ rest))] ∧ heapPop ltInt a k e' = heapPop ltInt a h e) (h + 1) ?_ ?_
   ·have e1:((h:Int) - 1) = ((h - 1:Nat):Int):=by omega
    refine ⟨[(0,.slice 0 0 n c),(6,.int .i64 a),(7,.int .i64 0),(10,.int .i64 ((h - 1:Nat):Int))],[some (.row 1 (rwA e ++ rest))],by (simp +decide only [go_sem,gcD_eq,gcIds_eq,refs_flatR f,renR_flat _ f]<;>rfl)<;>rfl,h,e,rfl,Nat.le_refl _,he,by rw [e1],rfl,rfl⟩
   ·rintro N F H ⟨k,e',rfl,hk,he',rfl,rfl,hP⟩
    have f:=rwA_flatA (d:=e') hrest
    cases k with
    | succ q=>
     have e1:(((q + 1:Nat):Int) - 1) = (q:Int):=by omega
     have d1:(0:Int) ≤ q:=by omega
     have hw4:IntKind.i64.wrap ((q:Int) - 1) = (q:Int) - 1:=w64 (by omega) (by omega)
     have hw5:IntKind.i64.wrap ((a:Int) + (q:Int)) = ((a + q:Nat):Int):=by rw [w64 (by omega) (by omega)];omega
     have hl:n ≤ (rwA e' ++ rest).length:=by rw [List.length_append,rwA_len];omega
     have hls2:∀ i x,((rwA e' ++ rest).set i x).length = (rwA e' ++ rest).length:=fun i x=>List.length_set
     have k0:a < n:=by omega
     have k1:a + q < n:=by omega
     have g0:=rwA_get (d:=e') (rest:=rest) (i:=a) (by omega)
     have g1:=rwA_get (d:=e') (rest:=rest) (i:=a + q) (by omega)
     have hs:=rwA_swp (d:=e') (rest:=rest) (i:=a) (j:=a + q) (by omega) (by omega)
     obtain ⟨y,hg3⟩:=rwA_get2 (d:=e') (rest:=rest) (i:=a) (j:=a + q) (x:=e'[a + q]!) (by omega) (by omega)
     have hsi:=sift_call (d':=false) n c (swp e' a (a + q)) rest 0 q a hrest (by rw [swp_size];exact he'.symm) (by omega) hn1 (by omega)
     simp only [Int.natCast_zero] at hsi
     have f2:=rwA_flatA (d:=siftDown ltInt q a 0 (swp e' a (a + q))) hrest
     rw [e1]
     (repeat first|simp only [ww]|(apply xa;simp +decide only [go_sem,d1,hw4,hw5,hl,hls2,k0,k1,g0,g1,hg3,hs,hsi];rfl;kernel_rfl))
     refine lpJ_n (q + 1) (by omega) ⟨_,_,?_,q,_,rfl,by omega,by rw [sift_size q a (q - 0) 0 _ (Nat.le_refl _),swp_size];exact he',rfl,rfl,hP⟩
     (simp +decide only [go_sem,gcD_eq,gcIds_eq,refs_flatR f2,renR_flat _ f2]<;>rfl)<;>rfl
    | zero=>
     have hP:e' = heapPop ltInt a h e:=hP
     rw [← hP]
     (repeat first|simp only [ww]|(apply xa;simp +decide only [go_sem,d1];rfl;kernel_rfl))
     (apply fqb;simp +decide only [go_sem,h0,renR_flat _ f]<;>rfl)
theorem order2_lt {d:Array Int} {a b s n:Nat} (ha:a < n) (hb:b < n):(order2 ltInt d a b s).1 < n ∧ (order2 ltInt d a b s).2.1 < n ∧ (order2 ltInt d a b s).2.2 ≤ s + 1:=by
 unfold order2;split<;>(simp only;omega)
theorem order2_ok (n:Nat) (c:Option Nat) (d:Array Int) (rest:List (List AV)) (a b s:Nat) (hrest:FlatR rest) (hn:n = d.size) (ha:a < n) (hb:b < n) (hs:s ≤ 100) :
 sem L.env Mf 100 [.slice 0 0 n c,.int .i64 a,.int .i64 b,.ptr 1 0 0] [some (.row 1 (rwA d ++ rest)),some (.row 1 [[.int .i64 s]])] = some (.tuple [.int .i64 (order2 ltInt d a b s).1,.int .i64 (order2 ltInt d a b s).2.1],[some (.row 1 (rwA d ++ rest)),some (.row 1 [[.int .i64 (order2 ltInt d a b s).2.2]])]):=by
 have hls:=fun d' H x y=>less_call (d:=d') H x y
 have f:=rwA_flatA (d:=d) hrest
 have hl:n ≤ (rwA d ++ rest).length:=by rw [List.length_append,rwA_len];omega
 have g0:=rwA_get (d:=d) (rest:=rest) (i:=a) (by omega)
 have g1:=rwA_get (d:=d) (rest:=rest) (i:=b) (by omega)
 have hw:=wI1 (n:=s) (by omega)
 have ho:order2 ltInt d a b s = if ltInt d[b]! d[a]! then (b,a,s + 1) else (a,b,s):=rfl
 cases hlt:ltInt d[b]! d[a]! with
 | true=>
  rw [ho,hlt,if_pos rfl]
  (refine sv Tryd.f100 ?_;simp only [Tryd.f100,gS])
  (repeat first|simp only [ww]|(apply xa;simp +decide only [go_sem,ha,hb,hl,g0,g1,hls,hlt,hw];rfl;kernel_rfl))
  (apply fqb;simp +decide only [go_sem,renR_flat _ f]<;>rfl)
 | false=>
  rw [ho,hlt,if_neg (by simp)]
  (refine sv Tryd.f100 ?_;simp only [Tryd.f100,gS])
  (repeat first|simp only [ww]|(apply xa;simp +decide only [go_sem,ha,hb,hl,g0,g1,hls,hlt,hw];rfl;kernel_rfl))
  (apply fqb;simp +decide only [go_sem,renR_flat _ f]<;>rfl)
/-- A call over the array and the count of swaps. -/
theorem call01 {d':Bool} {g:FuncId} {args:List AV} {R:List (List AV)} {s s':Nat} {v:AV} (hx:L.env.ext g = false) (hf:(L.env.fn g).isSome = true) (hR:FlatR R) (ha:refsL args = [0,1]) (hm:args.map (ren (piOf [0,1])) = args) (hv:ren (backOf [0,1] 2) v = v)
 (h:sem L.env Mf g args [some (.row 1 R),some (.row 1 [[.int .i64 s]])] = some (v,[some (.row 1 R),some (.row 1 [[.int .i64 s']])])) :
 callV L.env d' (sem L.env Mf) (.func (.func g) [] []) args [some (.row 1 R),some (.row 1 [[.int .i64 s]])] = some (v,[some (.row 1 R),some (.row 1 [[.int .i64 s']])],[0,1]):=by
 have r:=fun π=>renR_flat π hR
 have z:=refs_flatR hR
 have hc:=callLoc_eq (sem L.env Mf g) args [some (.row 1 R),some (.row 1 [[.int .i64 s]])] (σ:=[0,1]) (by rw [ha];simp +decide only [go_sem,z]) rfl rfl hm (H0:=[some (.row 1 R),some (.row 1 [[.int .i64 s]])]) (by simp only [smallH,List.map_cons,List.map_nil,HeapF,List.getElem?_cons_succ,List.getElem?_cons_zero,Option.join_some,Option.map_some,renObj,r];rfl) h
 refine callV_eq hx hf (by simp) (hc.trans ?_) rfl
 have hv2:ren (backOf [0,1] ([some (AObj.row 1 R),some (AObj.row 1 [[AV.int .i64 s]])]:Heap).length) v = v:=hv
 rw [hv2]
 simp +decide only [go_sem,r]<;>rfl
theorem median_lt {d:Array Int} {a b c s n:Nat} (ha:a < n) (hb:b < n) (hc:c < n):(median ltInt d a b c s).1 < n ∧ (median ltInt d a b c s).2 ≤ s + 3:=by
 obtain ⟨h1,h2,h3⟩:=order2_lt (d:=d) (s:=s) ha hb
 obtain ⟨h4,h5,h6⟩:=order2_lt (d:=d) (s:=(order2 ltInt d a b s).2.2) h2 hc
 obtain ⟨h7,h8,h9⟩:=order2_lt (d:=d) (s:=(order2 ltInt d (order2 ltInt d a b s).2.1 c (order2 ltInt d a b s).2.2).2.2) h1 h4
 exact ⟨h8,by show (order2 ltInt d _ _ _).2.2 ≤ _;omega⟩
theorem median_ok (n:Nat) (cp:Option Nat) (d:Array Int) (rest:List (List AV)) (a b c s:Nat) (hrest:FlatR rest) (hn:n = d.size) (ha:a < n) (hb:b < n) (hc:c < n) (hs:s ≤ 90) :
 sem L.env Mf 96 [.slice 0 0 n cp,.int .i64 a,.int .i64 b,.int .i64 c,.ptr 1 0 0] [some (.row 1 (rwA d ++ rest)),some (.row 1 [[.int .i64 s]])] = some (.int .i64 (median ltInt d a b c s).1,[some (.row 1 (rwA d ++ rest)),some (.row 1 [[.int .i64 (median ltInt d a b c s).2]])]):=by
 have f:=rwA_flatA (d:=d) hrest
 obtain ⟨h1,h2,h3⟩:=order2_lt (d:=d) (s:=s) ha hb
 obtain ⟨h4,h5,h6⟩:=order2_lt (d:=d) (s:=(order2 ltInt d a b s).2.2) h2 hc
 have k1:=call01 (d':=false) (by kernel_rfl) (by kernel_rfl) f rfl rfl rfl (order2_ok n cp d rest a b s hrest hn ha hb (by omega))
 have k2:=call01 (d':=false) (by kernel_rfl) (by kernel_rfl) f rfl rfl rfl (order2_ok n cp d rest (order2 ltInt d a b s).2.1 c (order2 ltInt d a b s).2.2 hrest hn h2 hc (by omega))
 have k3:=call01 (d':=false) (by kernel_rfl) (by kernel_rfl) f rfl rfl rfl (order2_ok n cp d rest (order2 ltInt d a b s).1 (order2 ltInt d (order2 ltInt d a b s).2.1 c (order2 ltInt d a b s).2.2).1 (order2 ltInt d (order2 ltInt d a b s).2.1 c (order2 ltInt d a b s).2.2).2.2 hrest hn h1 h4 (by omega))
 (refine sv Tryd.f96 ?_;simp only [Tryd.f96,gS])
 (repeat first|simp only [ww]|(apply xa;simp +decide only [go_sem,k1,k2,k3];rfl;kernel_rfl))
 (apply fqb;simp +decide only [go_sem,renR_flat _ f]<;>rfl)
theorem adj_ok (n:Nat) (cp:Option Nat) (d:Array Int) (rest:List (List AV)) (a s:Nat) (hrest:FlatR rest) (hn:n = d.size) (ha:0 < a) (hb:a + 1 < n) (hs:s ≤ 90) (hn1:n ≤ 1000) :
 sem L.env Mf 95 [.slice 0 0 n cp,.int .i64 a,.ptr 1 0 0] [some (.row 1 (rwA d ++ rest)),some (.row 1 [[.int .i64 s]])] = some (.int .i64 (medianAdjacent ltInt d a s).1,[some (.row 1 (rwA d ++ rest)),some (.row 1 [[.int .i64 (medianAdjacent ltInt d a s).2]])]):=by
 have f:=rwA_flatA (d:=d) hrest
 have k1:=call01 (d':=false) (by kernel_rfl) (by kernel_rfl) f rfl rfl rfl (median_ok n cp d rest (a - 1) a (a + 1) s hrest hn (by omega) (by omega) hb hs)
 have w1:=wI1 (n:=a) (by omega)
 have w2:IntKind.i64.wrap ((a:Int) - 1) = ((a - 1:Nat):Int):=by rw [w64 (by omega) (by omega)];omega
 (refine sv Tryd.f95 ?_;simp only [Tryd.f95,gS])
 (repeat first|simp only [ww]|(apply xa;simp +decide only [go_sem,w1,w2,k1];rfl;kernel_rfl))
 (apply fqb;simp +decide only [go_sem,renR_flat _ f]<;>rfl)
/-- slices.reverseRangeOrdered. -/
theorem rev_ok (n:Nat) (c:Option Nat) (d:Array Int) (rest:List (List AV)) (a b:Nat) (hrest:FlatR rest) (hn:n = d.size) (hab:a < b) (hb:b ≤ n) (hn1:n ≤ 1000) :
 sem L.env Mf 80 [.slice 0 0 n c,.int .i64 a,.int .i64 b] [some (.row 1 (rwA d ++ rest))] = some (.tuple [],[some (.row 1 (rwA (reverseRange d a b) ++ rest))]):=by
 have h0:oneOf [] = .tuple []:=rfl
 have w1:IntKind.i64.wrap ((b:Int) - 1) = ((b - 1:Nat):Int):=by rw [w64 (by omega) (by omega)];omega
 have hE:∀ (i j:Nat) (d:Array Int),reverseLoop i j d = if i < j then reverseLoop (i + 1) (j - 1) (swp d i j) else d:=fun i j d=>by conv=>lhs;unfold reverseLoop
 (refine sv Tryd.f80 ?_;simp only [Tryd.f80,gS])
 (repeat first|simp only [ww]|(apply xa;simp +decide only [go_sem,w1];rfl;kernel_rfl))
 refine xp_lp kp80_0 (fun N F H=>∃ (i j:Nat) (e:Array Int),N = j + 1 - i ∧ e.size = n ∧ F = [(0,.slice 0 0 n c),(6,.int .i64 i),(7,.int .i64 j)] ∧ H = [some (.row 1 (rwA e ++ rest))] ∧ reverseLoop i j e = reverseRange d a b ∧ j < n ∧ i ≤ n) (b - 1 + 1 - a) ?_ ?_
 ·have f:=rwA_flatA (d:=d) hrest
  refine ⟨_,_,?_,a,b - 1,d,rfl,hn.symm,rfl,rfl,rfl,by omega,by omega⟩
  (simp +decide only [go_sem,gcD_eq,gcIds_eq,refs_flatR f,renR_flat _ f]<;>rfl)<;>rfl
 ·rintro N F H ⟨i,j,e,rfl,he,rfl,rfl,hT,hj,hi⟩
  have f:=rwA_flatA (d:=e) hrest
  rw [hE] at hT
  by_cases hij:i < j
  ·rw [if_pos hij] at hT
   have d1:(i:Int) < j:=by omega
   have w2:=wI1 (n:=i) (by omega)
   have w3:IntKind.i64.wrap ((j:Int) - 1) = ((j - 1:Nat):Int):=by rw [w64 (by omega) (by omega)];omega
   have hl:n ≤ (rwA e ++ rest).length:=by rw [List.length_append,rwA_len];omega
   have hls2:∀ i x,((rwA e ++ rest).set i x).length = (rwA e ++ rest).length:=fun i x=>List.length_set
   have k0:i < n:=by omega
   have g0:=rwA_get (d:=e) (rest:=rest) (i:=i) (by omega)
   have g1:=rwA_get (d:=e) (rest:=rest) (i:=j) (by omega)
   have hs:=rwA_swp (d:=e) (rest:=rest) (i:=i) (j:=j) (by omega) (by omega)
   obtain ⟨y,hg3⟩:=rwA_get2 (d:=e) (rest:=rest) (i:=i) (j:=j) (x:=e[j]!) (by omega) (by omega)
   have f2:=rwA_flatA (d:=swp e i j) hrest
   (repeat first|simp only [ww]|(apply xa;simp +decide only [go_sem,d1,w2,w3,hl,hls2,k0,hj,g0,g1,hg3,hs];rfl;kernel_rfl))
   refine lpJ_n (j - 1 + 1 - (i + 1)) (by omega) ⟨_,_,?_,i + 1,j - 1,_,rfl,by rw [swp_size];exact he,rfl,rfl,hT,by omega,by omega⟩
   (simp +decide only [go_sem,gcD_eq,gcIds_eq,refs_flatR f2,renR_flat _ f2]<;>rfl)<;>rfl
  ·rw [if_neg hij] at hT
   have d1:¬ (i:Int) < j:=by omega
   (repeat first|simp only [ww]|(apply xa;simp +decide only [go_sem,d1];rfl;kernel_rfl))
   rw [← hT]
   (apply fqb;simp +decide only [go_sem,h0,renR_flat _ f]<;>rfl)
def hintI:Hint → Int
 | .unknown=>0
 | .increasing=>1
 | .decreasing=>2
theorem adj_lt {d:Array Int} {a s n:Nat} (ha:0 < a) (hb:a + 1 < n):(medianAdjacent ltInt d a s).1 < n ∧ (medianAdjacent ltInt d a s).2 ≤ s + 3:=median_lt (by omega) (by omega) hb
/-- slices.choosePivotOrdered. -/
theorem pivot_ok (n:Nat) (c:Option Nat) (d:Array Int) (rest:List (List AV)) (a b:Nat) (hrest:FlatR rest) (hn:n = d.size) (hab:a + 12 < b) (hb:b ≤ n) (hn1:n ≤ 1000) :
 sem L.env Mf 79 [.slice 0 0 n c,.int .i64 a,.int .i64 b] [some (.row 1 (rwA d ++ rest))] = some (.tuple [.int .i64 (choosePivot ltInt d a b).1,.int .i64 (hintI (choosePivot ltInt d a b).2)],[some (.row 1 (rwA d ++ rest))]):=by
 have f:=rwA_flatA (d:=d) hrest
 obtain ⟨l,hl⟩:∃ l,b = a + l:=⟨b - a,by omega⟩
 have hbl:b - a = l:=by omega
 have w1:IntKind.i64.wrap ((b:Int) - a) = (l:Int):=by rw [w64 (by omega) (by omega)];omega
 have w2:IntKind.i64.wrap ((l / 4:Nat):Int) = ((l / 4:Nat):Int):=w64 (by omega) (by omega)
 have w3:IntKind.i64.wrap (((l / 4:Nat):Int) * 1) = ((l / 4 * 1:Nat):Int):=by rw [w64 (by omega) (by omega)];omega
 have w4:IntKind.i64.wrap (((l / 4:Nat):Int) * 2) = ((l / 4 * 2:Nat):Int):=by rw [w64 (by omega) (by omega)];omega
 have w5:IntKind.i64.wrap (((l / 4:Nat):Int) * 3) = ((l / 4 * 3:Nat):Int):=by rw [w64 (by omega) (by omega)];omega
 have w7:IntKind.i64.wrap ((a:Int) + ((l / 4 * 2:Nat):Int)) = ((a + l / 4 * 2:Nat):Int):=by rw [w64 (by omega) (by omega)];omega
 have w8:IntKind.i64.wrap ((a:Int) + ((l / 4 * 3:Nat):Int)) = ((a + l / 4 * 3:Nat):Int):=by rw [w64 (by omega) (by omega)];omega
 have d1:(8:Int) ≤ l:=by omega
 obtain ⟨i,hi⟩:∃ i,i = a + l / 4 * 1:=⟨_,rfl⟩
 obtain ⟨j,hj⟩:∃ j,j = a + l / 4 * 2:=⟨_,rfl⟩
 obtain ⟨k,hk⟩:∃ k,k = a + l / 4 * 3:=⟨_,rfl⟩
 have hcp:choosePivot ltInt d a b = ((if l ≥ 50 then median ltInt d (medianAdjacent ltInt d i 0).1 (medianAdjacent ltInt d j (medianAdjacent ltInt d i 0).2).1 (medianAdjacent ltInt d k (medianAdjacent ltInt d j (medianAdjacent ltInt d i 0).2).2).1 (medianAdjacent ltInt d k (medianAdjacent ltInt d j (medianAdjacent ltInt d i 0).2).2).2 else median ltInt d i j k 0).1,
  if (if l ≥ 50 then median ltInt d (medianAdjacent ltInt d i 0).1 (medianAdjacent ltInt d j (medianAdjacent ltInt d i 0).2).1 (medianAdjacent ltInt d k (medianAdjacent ltInt d j (medianAdjacent ltInt d i 0).2).2).1 (medianAdjacent ltInt d k (medianAdjacent ltInt d j (medianAdjacent ltInt d i 0).2).2).2 else median ltInt d i j k 0).2 = 0 then .increasing else if (if l ≥ 50 then median ltInt d (medianAdjacent ltInt d i 0).1 (medianAdjacent ltInt d j (medianAdjacent ltInt d i 0).2).1 (medianAdjacent ltInt d k (medianAdjacent ltInt d j (medianAdjacent ltInt d i 0).2).2).1 (medianAdjacent ltInt d k (medianAdjacent ltInt d j (medianAdjacent ltInt d i 0).2).2).2 else median ltInt d i j k 0).2 = 12 then .decreasing else .unknown):=by
  unfold choosePivot
  simp only [hbl,← hi,← hj,← hk,show l ≥ 8 by omega,if_true]
 have w6:IntKind.i64.wrap ((a:Int) + ((l / 4:Nat):Int)) = (i:Int):=by rw [w64 (by omega) (by omega)];omega
 rw [← hj] at w7
 rw [← hk] at w8
 have key:∀ r:Nat × Nat,r.2 ≤ 12 → ∀ G:Prop,(r.2 = 0 → G) → (r.2 ≠ 0 → r.2 = 12 → G) → (r.2 ≠ 0 → r.2 ≠ 12 → G) → G:=by
  intro r _ G h1 h2 h3
  by_cases h:r.2 = 0
  ·exact h1 h
  ·by_cases h':r.2 = 12
   ·exact h2 h h'
   ·exact h3 h h'
 by_cases c50:l ≥ 50
 ·have d2:(50:Int) ≤ l:=by omega
  obtain ⟨a1,a2⟩:=adj_lt (d:=d) (a:=i) (s:=0) (n:=n) (by omega) (by omega)
  obtain ⟨b1,b2⟩:=adj_lt (d:=d) (a:=j) (s:=(medianAdjacent ltInt d i 0).2) (n:=n) (by omega) (by omega)
  obtain ⟨c1,c2⟩:=adj_lt (d:=d) (a:=k) (s:=(medianAdjacent ltInt d j (medianAdjacent ltInt d i 0).2).2) (n:=n) (by omega) (by omega)
  have k1:=call01 (d':=false) (by kernel_rfl) (by kernel_rfl) f rfl rfl rfl (adj_ok n c d rest i 0 hrest hn (by omega) (by omega) (by omega) hn1)
  have k2:=call01 (d':=false) (by kernel_rfl) (by kernel_rfl) f rfl rfl rfl (adj_ok n c d rest j (medianAdjacent ltInt d i 0).2 hrest hn (by omega) (by omega) (by omega) hn1)
  have k3:=call01 (d':=false) (by kernel_rfl) (by kernel_rfl) f rfl rfl rfl (adj_ok n c d rest k (medianAdjacent ltInt d j (medianAdjacent ltInt d i 0).2).2 hrest hn (by omega) (by omega) (by omega) hn1)
  have k4:=call01 (d':=false) (by kernel_rfl) (by kernel_rfl) f rfl rfl rfl (median_ok n c d rest (medianAdjacent ltInt d i 0).1 (medianAdjacent ltInt d j (medianAdjacent ltInt d i 0).2).1 (medianAdjacent ltInt d k (medianAdjacent ltInt d j (medianAdjacent ltInt d i 0).2).2).1 (medianAdjacent ltInt d k (medianAdjacent ltInt d j (medianAdjacent ltInt d i 0).2).2).2 hrest hn a1 b1 c1 (by omega))
  simp only [Int.natCast_zero] at k1
  rw [hcp]
  simp only [c50,if_true]
  generalize (median ltInt d (medianAdjacent ltInt d i 0).1 (medianAdjacent ltInt d j (medianAdjacent ltInt d i 0).2).1 (medianAdjacent ltInt d k (medianAdjacent ltInt d j (medianAdjacent ltInt d i 0).2).2).1 (medianAdjacent ltInt d k (medianAdjacent ltInt d j (medianAdjacent ltInt d i 0).2).2).2) = r at k4 ⊢
  by_cases e0:r.2 = 0
  ·have e0':(r.2:Int) = 0:=by omega
   rw [if_pos e0]
   (refine sv Tryd.f79 ?_;simp only [Tryd.f79,gS])
   (repeat first|simp only [ww]|(apply xa;simp +decide only [go_sem,w1,w2,w3,w4,w5,w6,w7,w8,d1,d2,k1,k2,k3,k4,e0'];rfl;kernel_rfl))
   (apply fqb;simp +decide only [go_sem,renR_flat _ f,hintI]<;>rfl)
  ·have e0':¬ (r.2:Int) = 0:=by omega
   rw [if_neg e0]
   by_cases e1:r.2 = 12
   ·have e1':(r.2:Int) = 12:=by omega
    rw [if_pos e1]
    (refine sv Tryd.f79 ?_;simp only [Tryd.f79,gS])
    (repeat first|simp only [ww]|(apply xa;simp +decide only [go_sem,w1,w2,w3,w4,w5,w6,w7,w8,d1,d2,k1,k2,k3,k4,e0',e1'];rfl;kernel_rfl))
    (apply fqb;simp +decide only [go_sem,renR_flat _ f,hintI]<;>rfl)
   ·have e1':¬ (r.2:Int) = 12:=by omega
    rw [if_neg e1]
    (refine sv Tryd.f79 ?_;simp only [Tryd.f79,gS])
    (repeat first|simp only [ww]|(apply xa;simp +decide only [go_sem,w1,w2,w3,w4,w5,w6,w7,w8,d1,d2,k1,k2,k3,k4,e0',e1'];rfl;kernel_rfl))
    (apply fqb;simp +decide only [go_sem,renR_flat _ f,hintI]<;>rfl)
 ·have d2:¬ (50:Int) ≤ l:=by omega
  have k4:=call01 (d':=false) (by kernel_rfl) (by kernel_rfl) f rfl rfl rfl (median_ok n c d rest i j k 0 hrest hn (by omega) (by omega) (by omega) (by omega))
  simp only [Int.natCast_zero] at k4
  rw [hcp]
  simp only [c50,if_false]
  generalize (median ltInt d i j k 0) = r at k4 ⊢
  by_cases e0:r.2 = 0
  ·have e0':(r.2:Int) = 0:=by omega
   rw [if_pos e0]
   (refine sv Tryd.f79 ?_;simp only [Tryd.f79,gS])
   (repeat first|simp only [ww]|(apply xa;simp +decide only [go_sem,w1,w2,w3,w4,w5,w6,w7,w8,d1,d2,k4,e0'];rfl;kernel_rfl))
   (apply fqb;simp +decide only [go_sem,renR_flat _ f,hintI]<;>rfl)
  ·have e0':¬ (r.2:Int) = 0:=by omega
   rw [if_neg e0]
   by_cases e1:r.2 = 12
   ·have e1':(r.2:Int) = 12:=by omega
    rw [if_pos e1]
    (refine sv Tryd.f79 ?_;simp only [Tryd.f79,gS])
    (repeat first|simp only [ww]|(apply xa;simp +decide only [go_sem,w1,w2,w3,w4,w5,w6,w7,w8,d1,d2,k4,e0',e1'];rfl;kernel_rfl))
    (apply fqb;simp +decide only [go_sem,renR_flat _ f,hintI]<;>rfl)
   ·have e1':¬ (r.2:Int) = 12:=by omega
    rw [if_neg e1]
    (refine sv Tryd.f79 ?_;simp only [Tryd.f79,gS])
    (repeat first|simp only [ww]|(apply xa;simp +decide only [go_sem,w1,w2,w3,w4,w5,w6,w7,w8,d1,d2,k4,e0',e1'];rfl;kernel_rfl))
    (apply fqb;simp +decide only [go_sem,renR_flat _ f,hintI]<;>rfl)
theorem partEqLoop_E (a i j:Nat) (d:Array Int):partEqLoop ltInt a i j d = if scanUp (fun x=>!ltInt d[a]! x) d j i > scanDown (fun x=>ltInt d[a]! x) d (scanUp (fun x=>!ltInt d[a]! x) d j i) j then (scanUp (fun x=>!ltInt d[a]! x) d j i,d) else
 if scanDown (fun x=>ltInt d[a]! x) d (scanUp (fun x=>!ltInt d[a]! x) d j i) j - 1 + 1 - (scanUp (fun x=>!ltInt d[a]! x) d j i + 1) < j + 1 - i then partEqLoop ltInt a (scanUp (fun x=>!ltInt d[a]! x) d j i + 1) (scanDown (fun x=>ltInt d[a]! x) d (scanUp (fun x=>!ltInt d[a]! x) d j i) j - 1) (swp d (scanUp (fun x=>!ltInt d[a]! x) d j i) (scanDown (fun x=>ltInt d[a]! x) d (scanUp (fun x=>!ltInt d[a]! x) d j i) j)) else (scanUp (fun x=>!ltInt d[a]! x) d j i,d):=by
 conv=>lhs;unfold partEqLoop
 simp only [dite_eq_ite]
/-- slices.partitionEqualOrdered. -/
theorem partEq_ok (n:Nat) (c:Option Nat) (d:Array Int) (rest:List (List AV)) (a b p:Nat) (hrest:FlatR rest) (hn:n = d.size) (hab:a + 1 < b) (hb:b ≤ n) (hn1:n ≤ 1000) (hp:p < n) :
 sem L.env Mf 83 [.slice 0 0 n c,.int .i64 a,.int .i64 b,.int .i64 p] [some (.row 1 (rwA d ++ rest))] = some (.int .i64 (partitionEqual ltInt d a b p).1,[some (.row 1 (rwA (partitionEqual ltInt d a b p).2 ++ rest))]):=by
 have hls:=fun d' H x y=>less_call (d:=d') H x y
 have w1:=wI1 (n:=a) (by omega)
 have w2:IntKind.i64.wrap ((b:Int) - 1) = ((b - 1:Nat):Int):=by rw [w64 (by omega) (by omega)];omega
 have s1:=rwA_get (d:=d) (rest:=rest) (i:=a) (by omega)
 have s2:=rwA_get (d:=d) (rest:=rest) (i:=p) (by omega)
 have s3:=rwA_swp (d:=d) (rest:=rest) (i:=a) (j:=p) (by omega) (by omega)
 obtain ⟨y,s4⟩:=rwA_get2 (d:=d) (rest:=rest) (i:=a) (j:=p) (x:=d[p]!) (by omega) (by omega)
 have s5:a < n:=by omega
 have s6:p < n:=by omega
 have s7:∀ i x,((rwA d ++ rest).set i x).length = (rwA d ++ rest).length:=fun i x=>List.length_set
 have s8:n ≤ (rwA d ++ rest).length:=by rw [List.length_append,rwA_len];omega
 have hpe:partitionEqual ltInt d a b p = partEqLoop ltInt a (a + 1) (b - 1) (swp d a p):=rfl
 (refine sv Tryd.f83 ?_;simp only [Tryd.f83,gS])
 (repeat first|simp only [ww]|(apply xa;simp +decide only [go_sem,w1,w2,s1,s2,s3,s4,s5,s6,s7,s8];rfl;kernel_rfl))
 refine xp_lp kp83_0 (fun N F H=>∃ (i j:Nat) (e:Array Int),N = j + 2 - i ∧ e.size = n ∧ F = [(0,.slice 0 0 n c),(1,.int .i64 a),(9,.int .i64 i),(10,.int .i64 j)] ∧ H = [some (.row 1 (rwA e ++ rest))] ∧ a < i ∧ i ≤ n ∧ j < n ∧ i ≤ j + 2 ∧ partEqLoop ltInt a i j e = partitionEqual ltInt d a b p) (b - 1 + 2 - (a + 1)) ?_ ?_
 ·refine ⟨_,_,?_,a + 1,b - 1,_,rfl,by rw [Pc.swp_size];exact hn.symm,rfl,rfl,by omega,by omega,by omega,by omega,rfl⟩
  have f:=rwA_flatA (d:=swp d a p) hrest
  (simp +decide only [go_sem,gcD_eq,gcIds_eq,refs_flatR f,renR_flat _ f]<;>rfl)<;>rfl
 ·rintro N F H ⟨i,j,e,rfl,he,rfl,rfl,hi1,hi2',hj1,hij',hR⟩
  (repeat first|simp only [ww]|(apply xa;simp +decide only [go_sem];rfl;kernel_rfl))
  have f:=rwA_flatA (d:=e) hrest
  have hl:n ≤ (rwA e ++ rest).length:=by rw [List.length_append,rwA_len];omega
  refine xp_loop3 (σ:=Nat) kp83_2 (fun u=>[(0,.slice 0 0 n c),(1,.int .i64 a),(9,.int .i64 u),(10,.int .i64 j)]) (fun u=>[some (.row 1 (rwA e ++ rest))]) (fun u=>j + 2 - u) (fun u=>i ≤ u ∧ u ≤ j + 2 ∧ scanUp (fun x=>!ltInt e[a]! x) e j u = scanUp (fun x=>!ltInt e[a]! x) e j i) (i) ?_ ⟨by omega,by omega,rfl⟩ ?_
  ·(simp +decide only [go_sem,gcD_eq,gcIds_eq,refs_flatR f,renR_flat _ f]<;>rfl)<;>rfl
  ·rintro u ⟨u1,u2,hT⟩
   have h3:(u ≤ j ∧ ltInt e[a]! e[u]! = false) ∨ (((u ≤ j) ∧ ltInt e[a]! e[u]! = true) ∨ ¬ (u ≤ j)):=by
    by_cases h:u ≤ j
    ·cases hh:ltInt e[a]! e[u]!<;>simp [h]
    ·exact .inr (.inr h)
   rcases h3 with ⟨h,h1⟩|h3
   ·have d1:(u:Int) ≤ (j:Nat):=by omega
    have ka:a < n:=by omega
    have kq:u < n:=by omega
    have ga:=rwA_get (d:=e) (rest:=rest) (i:=a) (by omega)
    have gq:=rwA_get (d:=e) (rest:=rest) (i:=u) (by omega)
    have w:=wI1 (n:=u) (by omega)
    (repeat first|simp only [ww]|(apply xa;simp +decide only [go_sem,d1,ka,kq,hl,ga,gq,hls,h1,w];rfl;kernel_rfl))
    refine lp_n (u + 1) ?_ (by omega) ⟨by omega,by omega,?_⟩
    ·(simp +decide only [go_sem,gcD_eq,gcIds_eq,refs_flatR f,renR_flat _ f]<;>rfl)<;>rfl
    ·rw [← hT]
     conv=>rhs;rw [scanUp_E]
     have hg:(decide (u ≤ j) && (fun x=>!ltInt e[a]! x) e[u]!) = true:=by simp [h,h1]
     rw [if_pos hg]
   ·have hst:(decide (u ≤ j) && (fun x=>!ltInt e[a]! x) e[u]!) = false:=by
     rcases h3 with ⟨h,h1⟩|h
     ·simp [h1]
     ·simp [h]
    have hu:scanUp (fun x=>!ltInt e[a]! x) e j i = u:=by rw [← hT,scanUp_E,hst,if_neg (by simp)]
    have h4:(((u:Int) ≤ (j:Nat)) ∧ ltInt e[a]! e[u]! = true ∧ (rwA e ++ rest)[u]? = some [AV.int .i64 e[u]!] ∧ u < n ∧ a < n) ∨ ((¬ (u:Int) ≤ (j:Nat)) ∧ (0:Nat) < 1 ∧ (0:Nat) < 1 ∧ (0:Nat) < 1 ∧ (0:Nat) < 1):=by
     rcases h3 with ⟨h,h1⟩|h
     ·exact .inl ⟨by omega,h1,rwA_get (by omega),by omega,by omega⟩
     ·exact .inr ⟨by omega,by decide,by decide,by decide,by decide⟩
    have ga:=rwA_get (d:=e) (rest:=rest) (i:=a) (by omega)
    rcases h4 with ⟨d1,d2,d3,d4,d5⟩|⟨d1,d2,d3,d4,d5⟩
    all_goals
     (repeat first|simp only [ww]|(apply xa;simp +decide only [go_sem,d1,d2,d3,d4,d5,hl,ga,hls];rfl;kernel_rfl))
     have f:=rwA_flatA (d:=e) hrest
     have hl:n ≤ (rwA e ++ rest).length:=by rw [List.length_append,rwA_len];omega
     refine xp_loop3 (σ:=Nat) kp83_4 (fun v=>[(0,.slice 0 0 n c),(1,.int .i64 a),(9,.int .i64 u),(10,.int .i64 v)]) (fun v=>[some (.row 1 (rwA e ++ rest))]) (fun v=>v) (fun v=>v ≤ j ∧ u ≤ v + 2 ∧ scanDown (fun x=>ltInt e[a]! x) e u v = scanDown (fun x=>ltInt e[a]! x) e u j) (j) ?_ ⟨by omega,by omega,rfl⟩ ?_
     ·(simp +decide only [go_sem,gcD_eq,gcIds_eq,refs_flatR f,renR_flat _ f]<;>rfl)<;>rfl
     ·rintro v ⟨v1,v2,hT⟩
      have h3:(u ≤ v ∧ ltInt e[a]! e[v]! = true) ∨ (((u ≤ v) ∧ ltInt e[a]! e[v]! = false) ∨ ¬ (u ≤ v)):=by
       by_cases h:u ≤ v
       ·cases hh:ltInt e[a]! e[v]!<;>simp [h]
       ·exact .inr (.inr h)
      rcases h3 with ⟨h,h1⟩|h3
      ·have d1:((u:Nat):Int) ≤ v:=by omega
       have ka:a < n:=by omega
       have kq:v < n:=by omega
       have ga:=rwA_get (d:=e) (rest:=rest) (i:=a) (by omega)
       have gq:=rwA_get (d:=e) (rest:=rest) (i:=v) (by omega)
       have w:IntKind.i64.wrap ((v:Int) - 1) = ((v - 1:Nat):Int):=by rw [w64 (by omega) (by omega)];omega
       (repeat first|simp only [ww]|(apply xa;simp +decide only [go_sem,d1,ka,kq,hl,ga,gq,hls,h1,w];rfl;kernel_rfl))
       refine lp_n (v - 1) ?_ (by omega) ⟨by omega,by omega,?_⟩
       ·(simp +decide only [go_sem,gcD_eq,gcIds_eq,refs_flatR f,renR_flat _ f]<;>rfl)<;>rfl
       ·rw [← hT]
        obtain ⟨r,rfl⟩:∃ r,v = r + 1:=⟨v - 1,by omega⟩
        have hg:(decide (u ≤ (r + 1)) && (fun x=>ltInt e[a]! x) e[(r + 1)]!) = true:=by simp [h,h1]
        rw [scanDown_S,if_pos hg];rfl
      ·have hst:(decide (u ≤ v) && (fun x=>ltInt e[a]! x) e[v]!) = false:=by
        rcases h3 with ⟨h,h1⟩|h
        ·simp [h1]
        ·simp [h]
       have hv:scanDown (fun x=>ltInt e[a]! x) e u j = v:=by
        rw [← hT]
        cases v with
        | zero=>rfl
        | succ r=>rw [scanDown_S,hst,if_neg (by simp)]
       have h4:((((u:Nat):Int) ≤ v) ∧ ltInt e[a]! e[v]! = false ∧ (rwA e ++ rest)[v]? = some [AV.int .i64 e[v]!] ∧ v < n ∧ a < n) ∨ ((¬ ((u:Nat):Int) ≤ v) ∧ (0:Nat) < 1 ∧ (0:Nat) < 1 ∧ (0:Nat) < 1 ∧ (0:Nat) < 1):=by
        rcases h3 with ⟨h,h1⟩|h
        ·exact .inl ⟨by omega,h1,rwA_get (by omega),by omega,by omega⟩
        ·exact .inr ⟨by omega,by decide,by decide,by decide,by decide⟩
       have ga:=rwA_get (d:=e) (rest:=rest) (i:=a) (by omega)
       rcases h4 with ⟨d1,d2,d3,d4,d5⟩|⟨d1,d2,d3,d4,d5⟩
       all_goals
        rw [partEqLoop_E,hu,hv] at hR
        by_cases hij:u > v
        ·have c2:(v:Int) < u:=by omega
         rw [if_pos hij] at hR
         (repeat first|simp only [ww]|(apply xa;simp +decide only [go_sem,d1,d2,d3,d4,d5,hl,ga,hls,c2];rfl;kernel_rfl))
         rw [bk_10]
         (repeat first|simp only [ww]|(apply xa;simp +decide only [go_sem];rfl;kernel_rfl))
         rw [← hR]
         (apply fqb;simp +decide only [go_sem,renR_flat _ f]<;>rfl)
        ·have c2:¬ (v:Int) < u:=by omega
         rw [if_neg hij,if_pos (by omega)] at hR
         have w3:=wI1 (n:=u) (by omega)
         have w4:IntKind.i64.wrap ((v:Int) - 1) = ((v - 1:Nat):Int):=by rw [w64 (by omega) (by omega)];omega
         have s1:=rwA_get (d:=e) (rest:=rest) (i:=u) (by omega)
         have s2:=rwA_get (d:=e) (rest:=rest) (i:=v) (by omega)
         have s3:=rwA_swp (d:=e) (rest:=rest) (i:=u) (j:=v) (by omega) (by omega)
         obtain ⟨y,s4⟩:=rwA_get2 (d:=e) (rest:=rest) (i:=u) (j:=v) (x:=e[v]!) (by omega) (by omega)
         have s5:u < n:=by omega
         have s6:v < n:=by omega
         have s7:∀ i x,((rwA e ++ rest).set i x).length = (rwA e ++ rest).length:=fun i x=>List.length_set
         have s8:n ≤ (rwA e ++ rest).length:=by rw [List.length_append,rwA_len];omega
         (repeat first|simp only [ww]|(apply xa;simp +decide only [go_sem,d1,d2,d3,d4,d5,hl,ga,hls,c2,w3,w4,s1,s2,s3,s4,s5,s6,s7,s8];rfl;kernel_rfl))
         refine lpJ_n (v - 1 + 2 - (u + 1)) (by omega) ⟨_,_,?_,u + 1,v - 1,_,rfl,by rw [Pc.swp_size];exact he,rfl,rfl,by omega,by omega,by omega,by omega,hR⟩
         have f2:=rwA_flatA (d:=swp e u v) hrest
         (simp +decide only [go_sem,gcD_eq,gcIds_eq,refs_flatR f2,renR_flat _ f2]<;>rfl)<;>rfl
end Go.KInst
