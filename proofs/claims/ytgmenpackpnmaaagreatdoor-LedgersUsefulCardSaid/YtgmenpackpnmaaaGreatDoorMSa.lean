/- Part of a proof. No condition. -/
import Derived.Test.YtgmenpackpnmaaaGreatDoorMBase
import Derived.Test.YtgmenpackpnmaaaGreatDoorAxE
import Derived.Test.YtgmenpackpnmaaaGreatDoorPcB
set_option linter.unusedSimpArgs false
set_option linter.unusedVariables false
namespace Go.MInst
open Go.Proofs Go.Ax Go.Pc Go.Sort
set_option maxRecDepth 100000
theorem c74 (x:Int):sem L.env Mf 139 [.int .i64 x] [] = some (.bool false,[]):=by
 (refine sv Tryz.f139 ?_;simp only [Tryz.f139,gS])
 (repeat first|simp only [ww]|(apply xa;simp +decide only [go_sem];rfl;kernel_rfl))
 (apply fqb;simp +decide only [go_sem]<;>rfl)
theorem d6p (x y:Int):sem L.env Mf 96 [.int .i64 x,.int .i64 y] [] = some (.bool (ltInt x y),[]):=by
 have hn:=fun (d:Bool) H x=>a05 (E:=L.env) (draw:=d) (call:=sem L.env Mf) (g:=139) (fs:=[]) (cs:=[]) (ar:=[.int .i64 x]) (H:=H) (by kernel_rfl) (by kernel_rfl) rfl rfl (c74 x) rfl
 have hl:ltInt x y = decide (x < y):=rfl
 (refine sv Tryz.f96 ?_;simp only [Tryz.f96,gS])
 (repeat first|simp only [ww]|(apply xa;simp +decide only [go_sem,hn];rfl;kernel_rfl))
 (apply fqb;simp +decide only [go_sem,hl]<;>rfl)
theorem a5p {d:Bool} (H:a06) (x y:Int):a0e L.env d (sem L.env Mf) (.func (.func 96) [] []) [.int .i64 x,.int .i64 y] H = some (.bool (ltInt x y),H,[]):=
 a05 (by kernel_rfl) (by kernel_rfl) rfl rfl (d6p x y) rfl
theorem e1p (n:Nat) (c:Option Nat) (d:Array Int) (rest:List (List AV)) (a b:Nat) (hrest:FlatR rest) (hn:n = d.size) (hab:a ≤ b) (hb:b ≤ n) (hn1:n ≤ 1000) :
 sem L.env Mf 90 [.slice 0 0 n c,.int .i64 a,.int .i64 b] [some (.row 1 (rwA d ++ rest))] = some (.tuple [],[some (.row 1 (rwA (insertionSort ltInt d a b) ++ rest))]):=by
 have hls:=fun d' H x y=>a5p (d:=d') H x y
 have h0:a45 [] = .tuple []:=rfl
 have hwa:=wI1 (n:=a) (by omega)
 (refine sv Tryz.f90 ?_;simp only [Tryz.f90,gS])
 (repeat first|simp only [ww]|(apply xa;simp +decide only [go_sem,hwa];rfl;kernel_rfl))
 refine a24 kp90_0 (fun N F H=>∃ (i:Nat) (e:Array Int),N = b - i ∧ a < i ∧ e.size = n ∧ F = [(0,.slice 0 0 n c),(1,.int .i64 a),(2,.int .i64 b),(6,.int .i64 i)] ∧ H = [some (.row 1 (rwA e ++ rest))] ∧ insOuter ltInt a b i e = insertionSort ltInt d a b) (b - (a + 1)) ?_ ?_
 ·refine ⟨_,_,?_,a + 1,d,rfl,Nat.lt_succ_self _,hn.symm,rfl,rfl,rfl⟩
  have f:=a07 (d:=d) hrest
  (simp +decide only [go_sem,a02,a00,a03 f,a01 _ f]<;>rfl)<;>rfl
 ·rintro N F H ⟨i,e,rfl,hai,he,rfl,rfl,hT⟩
  by_cases hib:i < b
  ·have c1:(i:Int) < b:=by omega
   have hwi:=wI1 (n:=i) (by omega)
   have hT2:insOuter ltInt a b (i + 1) (insInner ltInt a i e) = insertionSort ltInt d a b:=by rw [← hT,b4v a b i,if_pos hib]
   (repeat first|simp only [ww]|(apply xa;simp +decide only [go_sem,c1];rfl;kernel_rfl))
   refine a24 kp90_2 (fun N F H=>∃ (j:Nat) (e':Array Int),N = j + 1 ∧ j ≤ i ∧ e'.size = n ∧ F = [(0,.slice 0 0 n c),(1,.int .i64 a),(2,.int .i64 b),(6,.int .i64 i),(7,.int .i64 j)] ∧ H = [some (.row 1 (rwA e' ++ rest))] ∧ insInner ltInt a j e' = insInner ltInt a i e) (i + 1) ?_ ?_
   ·refine ⟨_,_,?_,i,e,rfl,Nat.le_refl _,he,rfl,rfl,rfl⟩
    have f:=a07 (d:=e) hrest
    (simp +decide only [go_sem,a02,a00,a03 f,a01 _ f]<;>rfl)<;>rfl
   ·rintro N F H ⟨j,e',rfl,hji,he',rfl,rfl,hI⟩
    have f:=a07 (d:=e') hrest
    have hl:n ≤ (rwA e' ++ rest).length:=by rw [List.length_append,a1i];omega
    by_cases hja:a < j
    ·obtain ⟨q,rfl⟩:∃ q,j = q + 1:=⟨j - 1,by omega⟩
     have d1:(a:Int) < ((q + 1:Nat):Int):=by omega
     have hwq:IntKind.i64.wrap (((q + 1:Nat):Int) - 1) = (q:Int):=by rw [w64 (by omega) (by omega)];omega
     have hq1:q + 1 < n:=by omega
     have hq0:q < n:=by omega
     have g1:=a0f (d:=e') (rest:=rest) (i:=q + 1) (by omega)
     have g0:=a0f (d:=e') (rest:=rest) (i:=q) (by omega)
     have hs:=a2c (d:=e') (rest:=rest) (i:=q + 1) (j:=q) (by omega) (by omega)
     have hls2:∀ x,((rwA e' ++ rest).set (q + 1) x).length = (rwA e' ++ rest).length:=fun x=>List.length_set
     rw [b4w] at hI
     cases hlt:ltInt e'[q + 1]! e'[q]! with
     | true=>
      rw [if_pos (by simp [hja,hlt])] at hI
      obtain ⟨y,hg2⟩:=a1r (d:=e') (rest:=rest) (i:=q + 1) (j:=q) (x:=e'[q]!) (by omega) (by omega)
      (repeat first|simp only [ww]|(apply xa;simp +decide only [go_sem,d1,hwq,hq1,hq0,hl,hls2,g1,g0,hls,hlt,hg2,hs];rfl;kernel_rfl))
      refine a12 (q + 1) (by omega) ⟨_,_,?_,q,_,rfl,by omega,by rw [swp_size];exact he',rfl,rfl,hI⟩
      have f2:=a07 (d:=swp e' (q + 1) q) hrest
      (simp +decide only [go_sem,a02,a00,a03 f2,a01 _ f2]<;>rfl)<;>rfl
     | false=>
      rw [if_neg (by simp [hlt])] at hI
      (repeat first|simp only [ww]|(apply xa;simp +decide only [go_sem,d1,hwq,hq1,hq0,hl,g1,g0,hls,hlt,hwi];rfl;kernel_rfl))
      refine a12 (b - (i + 1)) (by omega) ⟨_,_,?_,i + 1,e',rfl,by omega,he',rfl,rfl,by rw [hI];exact hT2⟩
      (simp +decide only [go_sem,a02,a00,a03 f,a01 _ f]<;>rfl)<;>rfl
    ·have d1:¬ (a:Int) < j:=by omega
     have hI2:insInner ltInt a j e' = e':=by
      cases j with
      | zero=>rfl
      | succ q=>rw [b4w,if_neg (by simp;omega)]
     rw [hI2] at hI
     (repeat first|simp only [ww]|(apply xa;simp +decide only [go_sem,d1,hwi];rfl;kernel_rfl))
     refine a12 (b - (i + 1)) (by omega) ⟨_,_,?_,i + 1,e',rfl,by omega,he',rfl,rfl,by rw [hI];exact hT2⟩
     (simp +decide only [go_sem,a02,a00,a03 f,a01 _ f]<;>rfl)<;>rfl
  ·have c1:¬ (i:Int) < b:=by omega
   have hT2:insOuter ltInt a b i e = e:=by rw [b4v,if_neg hib]
   rw [hT2] at hT
   have f:=a07 (d:=e) hrest
   (repeat first|simp only [ww]|(apply xa;simp +decide only [go_sem,c1];rfl;kernel_rfl))
   rw [← hT]
   (apply fqb;simp +decide only [go_sem,h0,a01 _ f]<;>rfl)
theorem e2t (Q:b0a) (F:Frm) (H:a06):bk 1 Q (.exit 0) F H = Q (.exit 0) F H:=rfl
theorem d5f (n:Nat) (c:Option Nat) (d:Array Int) (rest:List (List AV)) (lo hi fi:Nat) (hrest:FlatR rest) (hn:n = d.size) (hb:fi + hi ≤ n) (hn1:n ≤ 1000) (hlo:lo ≤ 1000) :
 sem L.env Mf 134 [.slice 0 0 n c,.int .i64 lo,.int .i64 hi,.int .i64 fi] [some (.row 1 (rwA d ++ rest))] = some (.tuple [],[some (.row 1 (rwA (siftDown ltInt hi fi lo d) ++ rest))]):=by
 have hls:=fun d' H x y=>a5p (d:=d') H x y
 have h0:a45 [] = .tuple []:=rfl
 (refine sv Tryz.f134 ?_;simp only [Tryz.f134,gS])
 (repeat first|simp only [ww]|(apply xa;simp +decide only [go_sem];rfl;kernel_rfl))
 refine a24 kp134_0 (fun N F H=>∃ (r:Nat) (e:Array Int),N = hi - r ∧ e.size = n ∧ F = [(0,.slice 0 0 n c),(2,.int .i64 hi),(3,.int .i64 fi),(8,.int .i64 r)] ∧ H = [some (.row 1 (rwA e ++ rest))] ∧ siftDown ltInt hi fi r e = siftDown ltInt hi fi lo d ∧ r ≤ 1000) (hi - lo) ?_ ?_
 ·refine ⟨_,_,?_,lo,d,rfl,hn.symm,rfl,rfl,rfl,hlo⟩
  have f:=a07 (d:=d) hrest
  (simp +decide only [go_sem,a02,a00,a03 f,a01 _ f]<;>rfl)<;>rfl
 ·rintro N F H ⟨r,e,rfl,he,rfl,rfl,hT,hr⟩
  have f:=a07 (d:=e) hrest
  have hl:n ≤ (rwA e ++ rest).length:=by rw [List.length_append,a1i];omega
  have hls2:∀ i x,((rwA e ++ rest).set i x).length = (rwA e ++ rest).length:=fun i x=>List.length_set
  have hw1:IntKind.i64.wrap (2 * (r:Int)) = ((2 * r:Nat):Int):=by rw [w64 (by omega) (by omega)];omega
  have hw2:IntKind.i64.wrap (((2 * r:Nat):Int) + 1) = ((2 * r + 1:Nat):Int):=by rw [w64 (by omega) (by omega)];omega
  have hw3:IntKind.i64.wrap (((2 * r + 1:Nat):Int) + 1) = ((2 * r + 2:Nat):Int):=by rw [w64 (by omega) (by omega)];omega
  rw [b0e hi fi r] at hT
  by_cases c1:2 * r + 1 ≥ hi
  ·rw [if_pos c1] at hT
   have d1:(hi:Int) ≤ ((2 * r + 1:Nat):Int):=by omega
   (repeat first|simp only [ww]|(apply xa;simp +decide only [go_sem,hw1,hw2,d1];rfl;kernel_rfl))
   rw [e2t]
   (repeat first|simp only [ww]|(apply xa;simp +decide only [go_sem];rfl;kernel_rfl))
   rw [← hT]
   (apply fqb;simp +decide only [go_sem,h0,a01 _ f]<;>rfl)
  ·rw [if_neg c1] at hT
   have d1:¬ (hi:Int) ≤ ((2 * r + 1:Nat):Int):=by omega
   have g0:=a0f (d:=e) (rest:=rest) (i:=fi + r) (by omega)
   have k0:fi + r < n:=by omega
   have w0:IntKind.i64.wrap ((fi:Int) + (r:Int)) = ((fi + r:Nat):Int):=by rw [w64 (by omega) (by omega)];omega
   have g1:=a0f (d:=e) (rest:=rest) (i:=fi + (2 * r + 1)) (by omega)
   have k1:fi + (2 * r + 1) < n:=by omega
   have w1:IntKind.i64.wrap ((fi:Int) + ((2 * r + 1:Nat):Int)) = ((fi + (2 * r + 1):Nat):Int):=by rw [w64 (by omega) (by omega)];omega
   by_cases c2:2 * r + 2 < hi
   ·have d2:((2 * r + 2:Nat):Int) < hi:=by omega
    have g3:=a0f (d:=e) (rest:=rest) (i:=fi + (2 * r + 1) + 1) (by omega)
    have k3:fi + (2 * r + 1) + 1 < n:=by omega
    have w3:IntKind.i64.wrap (((fi + (2 * r + 1):Nat):Int) + 1) = ((fi + (2 * r + 1) + 1:Nat):Int):=by rw [w64 (by omega) (by omega)];omega
    cases hl1:ltInt e[fi + (2 * r + 1)]! e[fi + (2 * r + 1) + 1]! with
    | true=>
     simp only [show 2 * r + 1 + 1 < hi from c2,hl1,decide_true,Bool.and_self,if_true] at hT
     have g2:=a0f (d:=e) (rest:=rest) (i:=fi + (2 * r + 2)) (by omega)
     have k2:fi + (2 * r + 2) < n:=by omega
     have w2:IntKind.i64.wrap ((fi:Int) + ((2 * r + 2:Nat):Int)) = ((fi + (2 * r + 2):Nat):Int):=by rw [w64 (by omega) (by omega)];omega
     cases hl2:ltInt e[fi + r]! e[fi + (2 * r + 2)]! with
     | false=>
      simp only [hl2,Bool.not_false,if_true] at hT
      (repeat first|simp only [ww]|(apply xa;simp +decide only [go_sem,hw1,hw2,hw3,hl,hls,d1,d2,g1,g3,k1,k3,w1,w3,hl1,g0,g2,k0,k2,w0,w2,hl2];rfl;kernel_rfl))
      rw [← hT]
      (apply fqb;simp +decide only [go_sem,h0,a01 _ f]<;>rfl)
     | true=>
      simp only [hl2,Bool.not_true,Bool.false_eq_true,if_false] at hT
      have hs:=a2c (d:=e) (rest:=rest) (i:=fi + r) (j:=fi + (2 * r + 2)) (by omega) (by omega)
      obtain ⟨y,hg3⟩:=a1r (d:=e) (rest:=rest) (i:=fi + r) (j:=fi + (2 * r + 2)) (x:=e[fi + (2 * r + 2)]!) (by omega) (by omega)
      (repeat first|simp only [ww]|(apply xa;simp +decide only [go_sem,hw1,hw2,hw3,hl,hls,d1,d2,g1,g3,k1,k3,w1,w3,hl1,g0,g2,k0,k2,w0,w2,hl2,hls2,hg3,hs];rfl;kernel_rfl))
      refine a12 (hi - (2 * r + 2)) (by omega) ⟨_,_,?_,2 * r + 2,_,rfl,by rw [swp_size];exact he,rfl,rfl,hT,by omega⟩
      have f2:=a07 (d:=swp e (fi + r) (fi + (2 * r + 2))) hrest
      (simp +decide only [go_sem,a02,a00,a03 f2,a01 _ f2]<;>rfl)<;>rfl
    | false=>
     simp only [hl1,Bool.and_false,Bool.false_eq_true,if_false] at hT
     have g2:=a0f (d:=e) (rest:=rest) (i:=fi + (2 * r + 1)) (by omega)
     have k2:fi + (2 * r + 1) < n:=by omega
     have w2:IntKind.i64.wrap ((fi:Int) + ((2 * r + 1:Nat):Int)) = ((fi + (2 * r + 1):Nat):Int):=by rw [w64 (by omega) (by omega)];omega
     cases hl2:ltInt e[fi + r]! e[fi + (2 * r + 1)]! with
     | false=>
      simp only [hl2,Bool.not_false,if_true] at hT
      (repeat first|simp only [ww]|(apply xa;simp +decide only [go_sem,hw1,hw2,hw3,hl,hls,d1,d2,g1,g3,k1,k3,w1,w3,hl1,g0,g2,k0,k2,w0,w2,hl2];rfl;kernel_rfl))
      rw [← hT]
      (apply fqb;simp +decide only [go_sem,h0,a01 _ f]<;>rfl)
     | true=>
      simp only [hl2,Bool.not_true,Bool.false_eq_true,if_false] at hT
      have hs:=a2c (d:=e) (rest:=rest) (i:=fi + r) (j:=fi + (2 * r + 1)) (by omega) (by omega)
      obtain ⟨y,hg3⟩:=a1r (d:=e) (rest:=rest) (i:=fi + r) (j:=fi + (2 * r + 1)) (x:=e[fi + (2 * r + 1)]!) (by omega) (by omega)
      (repeat first|simp only [ww]|(apply xa;simp +decide only [go_sem,hw1,hw2,hw3,hl,hls,d1,d2,g1,g3,k1,k3,w1,w3,hl1,g0,g2,k0,k2,w0,w2,hl2,hls2,hg3,hs];rfl;kernel_rfl))
      refine a12 (hi - (2 * r + 1)) (by omega) ⟨_,_,?_,2 * r + 1,_,rfl,by rw [swp_size];exact he,rfl,rfl,hT,by omega⟩
      have f2:=a07 (d:=swp e (fi + r) (fi + (2 * r + 1))) hrest
      (simp +decide only [go_sem,a02,a00,a03 f2,a01 _ f2]<;>rfl)<;>rfl
   ·have d2:¬ ((2 * r + 2:Nat):Int) < hi:=by omega
    simp only [show ¬ 2 * r + 1 + 1 < hi from c2,decide_false,Bool.false_and,Bool.false_eq_true,if_false] at hT
    have g2:=a0f (d:=e) (rest:=rest) (i:=fi + (2 * r + 1)) (by omega)
    have k2:fi + (2 * r + 1) < n:=by omega
    have w2:IntKind.i64.wrap ((fi:Int) + ((2 * r + 1:Nat):Int)) = ((fi + (2 * r + 1):Nat):Int):=by rw [w64 (by omega) (by omega)];omega
    cases hl2:ltInt e[fi + r]! e[fi + (2 * r + 1)]! with
    | false=>
     simp only [hl2,Bool.not_false,if_true] at hT
     (repeat first|simp only [ww]|(apply xa;simp +decide only [go_sem,hw1,hw2,hw3,hl,hls,d1,d2,g0,g2,k0,k2,w0,w2,hl2];rfl;kernel_rfl))
     rw [← hT]
     (apply fqb;simp +decide only [go_sem,h0,a01 _ f]<;>rfl)
    | true=>
     simp only [hl2,Bool.not_true,Bool.false_eq_true,if_false] at hT
     have hs:=a2c (d:=e) (rest:=rest) (i:=fi + r) (j:=fi + (2 * r + 1)) (by omega) (by omega)
     obtain ⟨y,hg3⟩:=a1r (d:=e) (rest:=rest) (i:=fi + r) (j:=fi + (2 * r + 1)) (x:=e[fi + (2 * r + 1)]!) (by omega) (by omega)
     (repeat first|simp only [ww]|(apply xa;simp +decide only [go_sem,hw1,hw2,hw3,hl,hls,d1,d2,g0,g2,k0,k2,w0,w2,hl2,hls2,hg3,hs];rfl;kernel_rfl))
     refine a12 (hi - (2 * r + 1)) (by omega) ⟨_,_,?_,2 * r + 1,_,rfl,by rw [swp_size];exact he,rfl,rfl,hT,by omega⟩
     have f2:=a07 (d:=swp e (fi + r) (fi + (2 * r + 1))) hrest
     (simp +decide only [go_sem,a02,a00,a03 f2,a01 _ f2]<;>rfl)<;>rfl
theorem b3k {d:Bool} {g:FuncId} {args:List AV} {R R':List (List AV)} {v:AV} (hx:L.env.ext g = false) (hf:(L.env.fn g).isSome = true) (hR:FlatR R) (hR':FlatR R') (ha:a0d args = [0]) (hm:args.map (ren (a50 [0])) = args) (hv:ren (a18 [0] 1) v = v)
 (h:sem L.env Mf g args [some (.row 1 R)] = some (v,[some (.row 1 R')])):a0e L.env d (sem L.env Mf) (.func (.func g) [] []) args [some (.row 1 R)] = some (v,[some (.row 1 R')],[0]):=
 a1y (E:=L.env) (draw:=d) (call:=sem L.env Mf) (fs:=[]) (cs:=[]) (ar:=args) (H:=[some (.row 1 R)]) (b:=0) hx hf (by simp) rfl (a0t hR) (FlatO.row hR) ha hm h (FlatO.row hR') hv
theorem b7g {d':Bool} (n:Nat) (c:Option Nat) (d:Array Int) (rest:List (List AV)) (lo hi fi:Nat) (hrest:FlatR rest) (hn:n = d.size) (hb:fi + hi ≤ n) (hn1:n ≤ 1000) (hlo:lo ≤ 1000) :
 a0e L.env d' (sem L.env Mf) (.func (.func 134) [] []) [.slice 0 0 n c,.int .i64 lo,.int .i64 hi,.int .i64 fi] [some (.row 1 (rwA d ++ rest))] = some (.tuple [],[some (.row 1 (rwA (siftDown ltInt hi fi lo d) ++ rest))],[0]):=
 b3k (by kernel_rfl) (by kernel_rfl) (a07 hrest) (a07 hrest) rfl rfl rfl (d5f n c d rest lo hi fi hrest hn hb hn1 hlo)
theorem a9h (hi fi:Nat):∀ (m r:Nat) (d:Array Int),hi - r ≤ m → (siftDown ltInt hi fi r d).size = d.size
 | 0,r,d,h=>by rw [b0e,if_pos (by omega)]
 | m + 1,r,d,h=>by
  rw [b0e]
  by_cases c1:2 * r + 1 ≥ hi
  ·rw [if_pos c1]
  ·rw [if_neg c1]
   split
   ·split
    ·rfl
    ·split
     ·rw [a9h hi fi m _ _ (by omega),swp_size]
     ·rfl
   ·split
    ·rfl
    ·rw [a9h hi fi m _ _ (by omega),swp_size]
theorem d73 (n:Nat) (c:Option Nat) (d:Array Int) (rest:List (List AV)) (a b:Nat) (hrest:FlatR rest) (hn:n = d.size) (hab:a + 12 < b) (hb:b ≤ n) (hn1:n ≤ 1000) :
 sem L.env Mf 91 [.slice 0 0 n c,.int .i64 a,.int .i64 b] [some (.row 1 (rwA d ++ rest))] = some (.tuple [],[some (.row 1 (rwA (heapSort ltInt d a b) ++ rest))]):=by
 have h0:a45 [] = .tuple []:=rfl
 obtain ⟨h,hh⟩:∃ h,b = a + h:=⟨b - a,by omega⟩
 have hT:heapSort ltInt d a b = heapPop ltInt a h (heapBuild ltInt h a ((h - 1) / 2 + 1) d):=by unfold heapSort;rw [show b - a = h by omega]
 have hw1:IntKind.i64.wrap ((b:Int) - a) = (h:Int):=by rw [w64 (by omega) (by omega)];omega
 have hw2:IntKind.i64.wrap ((h:Int) - 1) = ((h - 1:Nat):Int):=by rw [w64 (by omega) (by omega)];omega
 have hw3:IntKind.i64.wrap (((h - 1) / 2:Nat):Int) = ((h - 1) / 2:Nat):=w64 (by omega) (by omega)
 rw [hT]
 (refine sv Tryz.f91 ?_;simp only [Tryz.f91,gS])
 (repeat first|simp only [ww]|(apply xa;simp +decide only [go_sem,hw1,hw2,hw3];rfl;kernel_rfl))
 refine a24 kp91_0 (fun N F H=>∃ (k:Nat) (e:Array Int),N = k + 1 ∧ k ≤ h ∧ e.size = n ∧ F = [(0,.slice 0 0 n c),(6,.int .i64 a),(7,.int .i64 0),(8,.int .i64 h),(9,.int .i64 ((k:Int) - 1))] ∧ H = [some (.row 1 (rwA e ++ rest))] ∧ heapBuild ltInt h a k e = heapBuild ltInt h a ((h - 1) / 2 + 1) d) ((h - 1) / 2 + 2) ?_ ?_
 ·have f:=a07 (d:=d) hrest
  have e1:((((h - 1) / 2 + 1:Nat):Int) - 1) = (((h - 1) / 2:Nat):Int):=by omega
  refine ⟨[(0,.slice 0 0 n c),(6,.int .i64 a),(7,.int .i64 0),(8,.int .i64 h),(9,.int .i64 (((h - 1) / 2:Nat):Int))],[some (.row 1 (rwA d ++ rest))],by (simp +decide only [go_sem,a02,a00,a03 f,a01 _ f]<;>rfl)<;>rfl,(h - 1) / 2 + 1,d,rfl,by omega,hn.symm,by rw [e1],rfl,rfl⟩
 ·rintro N F H ⟨k,e,rfl,hk,he,rfl,rfl,hB⟩
  have f:=a07 (d:=e) hrest
  cases k with
  | succ q=>
   have e1:(((q + 1:Nat):Int) - 1) = (q:Int):=by omega
   have d1:(0:Int) ≤ q:=by omega
   have hw4:IntKind.i64.wrap ((q:Int) - 1) = (q:Int) - 1:=w64 (by omega) (by omega)
   have hs:=b7g (d':=false) n c e rest q h a hrest he.symm (by omega) hn1 (by omega)
   have f2:=a07 (d:=siftDown ltInt h a q e) hrest
   rw [e1]
   (repeat first|simp only [ww]|(apply xa;simp +decide only [go_sem,d1,hs,hw4];rfl;kernel_rfl))
   refine a12 (q + 1) (by omega) ⟨_,_,?_,q,_,rfl,by omega,by rw [a9h h a (h - q) q e (Nat.le_refl _)];exact he,rfl,rfl,hB⟩
   (simp +decide only [go_sem,a02,a00,a03 f2,a01 _ f2]<;>rfl)<;>rfl
  | zero=>
   have hB:e = heapBuild ltInt h a ((h - 1) / 2 + 1) d:=hB
   have d1:¬ (0:Int) ≤ ((0:Nat):Int) - 1:=by omega
   rw [← hB]
   (repeat first|simp only [ww]|(apply xa;simp +decide only [go_sem,d1,hw2];rfl;kernel_rfl))
   refine a24 kp91_2 (fun N F H=>∃ (k:Nat) (e':Array Int),N = k + 1 ∧ k ≤ h ∧ e'.size = n ∧ F = [(0,.slice 0 0 n c),(6,.int .i64 a),(7,.int .i64 0),(10,.int .i64 ((k:Int) - 1))] ∧ H = [some (.row 1 (rwA e' ++ rest))] ∧ heapPop ltInt a k e' = heapPop ltInt a h e) (h + 1) ?_ ?_
   ·have e1:((h:Int) - 1) = ((h - 1:Nat):Int):=by omega
    refine ⟨[(0,.slice 0 0 n c),(6,.int .i64 a),(7,.int .i64 0),(10,.int .i64 ((h - 1:Nat):Int))],[some (.row 1 (rwA e ++ rest))],by (simp +decide only [go_sem,a02,a00,a03 f,a01 _ f]<;>rfl)<;>rfl,h,e,rfl,Nat.le_refl _,he,by rw [e1],rfl,rfl⟩
   ·rintro N F H ⟨k,e',rfl,hk,he',rfl,rfl,hP⟩
    have f:=a07 (d:=e') hrest
    cases k with
    | succ q=>
     have e1:(((q + 1:Nat):Int) - 1) = (q:Int):=by omega
     have d1:(0:Int) ≤ q:=by omega
     have hw4:IntKind.i64.wrap ((q:Int) - 1) = (q:Int) - 1:=w64 (by omega) (by omega)
     have hw5:IntKind.i64.wrap ((a:Int) + (q:Int)) = ((a + q:Nat):Int):=by rw [w64 (by omega) (by omega)];omega
     have hl:n ≤ (rwA e' ++ rest).length:=by rw [List.length_append,a1i];omega
     have hls2:∀ i x,((rwA e' ++ rest).set i x).length = (rwA e' ++ rest).length:=fun i x=>List.length_set
     have k0:a < n:=by omega
     have k1:a + q < n:=by omega
     have g0:=a0f (d:=e') (rest:=rest) (i:=a) (by omega)
     have g1:=a0f (d:=e') (rest:=rest) (i:=a + q) (by omega)
     have hs:=a2c (d:=e') (rest:=rest) (i:=a) (j:=a + q) (by omega) (by omega)
     obtain ⟨y,hg3⟩:=a1r (d:=e') (rest:=rest) (i:=a) (j:=a + q) (x:=e'[a + q]!) (by omega) (by omega)
     have hsi:=b7g (d':=false) n c (swp e' a (a + q)) rest 0 q a hrest (by rw [swp_size];exact he'.symm) (by omega) hn1 (by omega)
     simp only [Int.natCast_zero] at hsi
     have f2:=a07 (d:=siftDown ltInt q a 0 (swp e' a (a + q))) hrest
     rw [e1]
     (repeat first|simp only [ww]|(apply xa;simp +decide only [go_sem,d1,hw4,hw5,hl,hls2,k0,k1,g0,g1,hg3,hs,hsi];rfl;kernel_rfl))
     refine a12 (q + 1) (by omega) ⟨_,_,?_,q,_,rfl,by omega,by rw [a9h q a (q - 0) 0 _ (Nat.le_refl _),swp_size];exact he',rfl,rfl,hP⟩
     (simp +decide only [go_sem,a02,a00,a03 f2,a01 _ f2]<;>rfl)<;>rfl
    | zero=>
     have hP:e' = heapPop ltInt a h e:=hP
     rw [← hP]
     (repeat first|simp only [ww]|(apply xa;simp +decide only [go_sem,d1];rfl;kernel_rfl))
     (apply fqb;simp +decide only [go_sem,h0,a01 _ f]<;>rfl)
theorem a7v {d:Array Int} {a b s n:Nat} (ha:a < n) (hb:b < n):(order2 ltInt d a b s).1 < n ∧ (order2 ltInt d a b s).2.1 < n ∧ (order2 ltInt d a b s).2.2 ≤ s + 1:=by
 unfold order2;split<;>(simp only;omega)
theorem b2g (n:Nat) (c:Option Nat) (d:Array Int) (rest:List (List AV)) (a b s:Nat) (hrest:FlatR rest) (hn:n = d.size) (ha:a < n) (hb:b < n) (hs:s ≤ 100) :
 sem L.env Mf 159 [.slice 0 0 n c,.int .i64 a,.int .i64 b,.ptr 1 0 0] [some (.row 1 (rwA d ++ rest)),some (.row 1 [[.int .i64 s]])] = some (.tuple [.int .i64 (order2 ltInt d a b s).1,.int .i64 (order2 ltInt d a b s).2.1],[some (.row 1 (rwA d ++ rest)),some (.row 1 [[.int .i64 (order2 ltInt d a b s).2.2]])]):=by
 have hls:=fun d' H x y=>a5p (d:=d') H x y
 have f:=a07 (d:=d) hrest
 have hl:n ≤ (rwA d ++ rest).length:=by rw [List.length_append,a1i];omega
 have g0:=a0f (d:=d) (rest:=rest) (i:=a) (by omega)
 have g1:=a0f (d:=d) (rest:=rest) (i:=b) (by omega)
 have hw:=wI1 (n:=s) (by omega)
 have ho:order2 ltInt d a b s = if ltInt d[b]! d[a]! then (b,a,s + 1) else (a,b,s):=rfl
 cases hlt:ltInt d[b]! d[a]! with
 | true=>
  rw [ho,hlt,if_pos rfl]
  (refine sv Tryz.f159 ?_;simp only [Tryz.f159,gS])
  (repeat first|simp only [ww]|(apply xa;simp +decide only [go_sem,ha,hb,hl,g0,g1,hls,hlt,hw];rfl;kernel_rfl))
  (apply fqb;simp +decide only [go_sem,a01 _ f]<;>rfl)
 | false=>
  rw [ho,hlt,if_neg (by simp)]
  (refine sv Tryz.f159 ?_;simp only [Tryz.f159,gS])
  (repeat first|simp only [ww]|(apply xa;simp +decide only [go_sem,ha,hb,hl,g0,g1,hls,hlt,hw];rfl;kernel_rfl))
  (apply fqb;simp +decide only [go_sem,a01 _ f]<;>rfl)
theorem b04 {d':Bool} {g:FuncId} {args:List AV} {R:List (List AV)} {s s':Nat} {v:AV} (hx:L.env.ext g = false) (hf:(L.env.fn g).isSome = true) (hR:FlatR R) (ha:a0d args = [0,1]) (hm:args.map (ren (a50 [0,1])) = args) (hv:ren (a18 [0,1] 2) v = v)
 (h:sem L.env Mf g args [some (.row 1 R),some (.row 1 [[.int .i64 s]])] = some (v,[some (.row 1 R),some (.row 1 [[.int .i64 s']])])) :
 a0e L.env d' (sem L.env Mf) (.func (.func g) [] []) args [some (.row 1 R),some (.row 1 [[.int .i64 s]])] = some (v,[some (.row 1 R),some (.row 1 [[.int .i64 s']])],[0,1]):=by
 have r:=fun π=>a01 π hR
 have z:=a03 hR
 have hc:=a0y (sem L.env Mf g) args [some (.row 1 R),some (.row 1 [[.int .i64 s]])] (σ:=[0,1]) (by rw [ha];simp +decide only [go_sem,z]) rfl rfl hm (H0:=[some (.row 1 R),some (.row 1 [[.int .i64 s]])]) (by simp only [a1n,List.map_cons,List.map_nil,a04,List.getElem?_cons_succ,List.getElem?_cons_zero,Option.join_some,Option.map_some,a0m,r];rfl) h
 refine a23 hx hf (by simp) (hc.trans ?_) rfl
 have hv2:ren (a18 [0,1] ([some (AObj.row 1 R),some (AObj.row 1 [[AV.int .i64 s]])]:a06).length) v = v:=hv
 rw [hv2]
 simp +decide only [go_sem,r]<;>rfl
theorem c6n {d:Array Int} {a b c s n:Nat} (ha:a < n) (hb:b < n) (hc:c < n):(median ltInt d a b c s).1 < n ∧ (median ltInt d a b c s).2 ≤ s + 3:=by
 obtain ⟨h1,h2,h3⟩:=a7v (d:=d) (s:=s) ha hb
 obtain ⟨h4,h5,h6⟩:=a7v (d:=d) (s:=(order2 ltInt d a b s).2.2) h2 hc
 obtain ⟨h7,h8,h9⟩:=a7v (d:=d) (s:=(order2 ltInt d (order2 ltInt d a b s).2.1 c (order2 ltInt d a b s).2.2).2.2) h1 h4
 exact ⟨h8,by show (order2 ltInt d _ _ _).2.2 ≤ _;omega⟩
theorem b2m (n:Nat) (cp:Option Nat) (d:Array Int) (rest:List (List AV)) (a b c s:Nat) (hrest:FlatR rest) (hn:n = d.size) (ha:a < n) (hb:b < n) (hc:c < n) (hs:s ≤ 90) :
 sem L.env Mf 138 [.slice 0 0 n cp,.int .i64 a,.int .i64 b,.int .i64 c,.ptr 1 0 0] [some (.row 1 (rwA d ++ rest)),some (.row 1 [[.int .i64 s]])] = some (.int .i64 (median ltInt d a b c s).1,[some (.row 1 (rwA d ++ rest)),some (.row 1 [[.int .i64 (median ltInt d a b c s).2]])]):=by
 have f:=a07 (d:=d) hrest
 obtain ⟨h1,h2,h3⟩:=a7v (d:=d) (s:=s) ha hb
 obtain ⟨h4,h5,h6⟩:=a7v (d:=d) (s:=(order2 ltInt d a b s).2.2) h2 hc
 have k1:=b04 (d':=false) (by kernel_rfl) (by kernel_rfl) f rfl rfl rfl (b2g n cp d rest a b s hrest hn ha hb (by omega))
 have k2:=b04 (d':=false) (by kernel_rfl) (by kernel_rfl) f rfl rfl rfl (b2g n cp d rest (order2 ltInt d a b s).2.1 c (order2 ltInt d a b s).2.2 hrest hn h2 hc (by omega))
 have k3:=b04 (d':=false) (by kernel_rfl) (by kernel_rfl) f rfl rfl rfl (b2g n cp d rest (order2 ltInt d a b s).1 (order2 ltInt d (order2 ltInt d a b s).2.1 c (order2 ltInt d a b s).2.2).1 (order2 ltInt d (order2 ltInt d a b s).2.1 c (order2 ltInt d a b s).2.2).2.2 hrest hn h1 h4 (by omega))
 (refine sv Tryz.f138 ?_;simp only [Tryz.f138,gS])
 (repeat first|simp only [ww]|(apply xa;simp +decide only [go_sem,k1,k2,k3];rfl;kernel_rfl))
 (apply fqb;simp +decide only [go_sem,a01 _ f]<;>rfl)
theorem c99 (n:Nat) (cp:Option Nat) (d:Array Int) (rest:List (List AV)) (a s:Nat) (hrest:FlatR rest) (hn:n = d.size) (ha:0 < a) (hb:a + 1 < n) (hs:s ≤ 90) (hn1:n ≤ 1000) :
 sem L.env Mf 137 [.slice 0 0 n cp,.int .i64 a,.ptr 1 0 0] [some (.row 1 (rwA d ++ rest)),some (.row 1 [[.int .i64 s]])] = some (.int .i64 (medianAdjacent ltInt d a s).1,[some (.row 1 (rwA d ++ rest)),some (.row 1 [[.int .i64 (medianAdjacent ltInt d a s).2]])]):=by
 have f:=a07 (d:=d) hrest
 have k1:=b04 (d':=false) (by kernel_rfl) (by kernel_rfl) f rfl rfl rfl (b2m n cp d rest (a - 1) a (a + 1) s hrest hn (by omega) (by omega) hb hs)
 have w1:=wI1 (n:=a) (by omega)
 have w2:IntKind.i64.wrap ((a:Int) - 1) = ((a - 1:Nat):Int):=by rw [w64 (by omega) (by omega)];omega
 (refine sv Tryz.f137 ?_;simp only [Tryz.f137,gS])
 (repeat first|simp only [ww]|(apply xa;simp +decide only [go_sem,w1,w2,k1];rfl;kernel_rfl))
 (apply fqb;simp +decide only [go_sem,a01 _ f]<;>rfl)
theorem e0r (n:Nat) (c:Option Nat) (d:Array Int) (rest:List (List AV)) (a b:Nat) (hrest:FlatR rest) (hn:n = d.size) (hab:a < b) (hb:b ≤ n) (hn1:n ≤ 1000) :
 sem L.env Mf 94 [.slice 0 0 n c,.int .i64 a,.int .i64 b] [some (.row 1 (rwA d ++ rest))] = some (.tuple [],[some (.row 1 (rwA (reverseRange d a b) ++ rest))]):=by
 have h0:a45 [] = .tuple []:=rfl
 have w1:IntKind.i64.wrap ((b:Int) - 1) = ((b - 1:Nat):Int):=by rw [w64 (by omega) (by omega)];omega
 have hE:∀ (i j:Nat) (d:Array Int),reverseLoop i j d = if i < j then reverseLoop (i + 1) (j - 1) (swp d i j) else d:=fun i j d=>by conv=>lhs;unfold reverseLoop
 (refine sv Tryz.f94 ?_;simp only [Tryz.f94,gS])
 (repeat first|simp only [ww]|(apply xa;simp +decide only [go_sem,w1];rfl;kernel_rfl))
 refine a24 kp94_0 (fun N F H=>∃ (i j:Nat) (e:Array Int),N = j + 1 - i ∧ e.size = n ∧ F = [(0,.slice 0 0 n c),(6,.int .i64 i),(7,.int .i64 j)] ∧ H = [some (.row 1 (rwA e ++ rest))] ∧ reverseLoop i j e = reverseRange d a b ∧ j < n ∧ i ≤ n) (b - 1 + 1 - a) ?_ ?_
 ·have f:=a07 (d:=d) hrest
  refine ⟨_,_,?_,a,b - 1,d,rfl,hn.symm,rfl,rfl,rfl,by omega,by omega⟩
  (simp +decide only [go_sem,a02,a00,a03 f,a01 _ f]<;>rfl)<;>rfl
 ·rintro N F H ⟨i,j,e,rfl,he,rfl,rfl,hT,hj,hi⟩
  have f:=a07 (d:=e) hrest
  rw [hE] at hT
  by_cases hij:i < j
  ·rw [if_pos hij] at hT
   have d1:(i:Int) < j:=by omega
   have w2:=wI1 (n:=i) (by omega)
   have w3:IntKind.i64.wrap ((j:Int) - 1) = ((j - 1:Nat):Int):=by rw [w64 (by omega) (by omega)];omega
   have hl:n ≤ (rwA e ++ rest).length:=by rw [List.length_append,a1i];omega
   have hls2:∀ i x,((rwA e ++ rest).set i x).length = (rwA e ++ rest).length:=fun i x=>List.length_set
   have k0:i < n:=by omega
   have g0:=a0f (d:=e) (rest:=rest) (i:=i) (by omega)
   have g1:=a0f (d:=e) (rest:=rest) (i:=j) (by omega)
   have hs:=a2c (d:=e) (rest:=rest) (i:=i) (j:=j) (by omega) (by omega)
   obtain ⟨y,hg3⟩:=a1r (d:=e) (rest:=rest) (i:=i) (j:=j) (x:=e[j]!) (by omega) (by omega)
   have f2:=a07 (d:=swp e i j) hrest
   (repeat first|simp only [ww]|(apply xa;simp +decide only [go_sem,d1,w2,w3,hl,hls2,k0,hj,g0,g1,hg3,hs];rfl;kernel_rfl))
   refine a12 (j - 1 + 1 - (i + 1)) (by omega) ⟨_,_,?_,i + 1,j - 1,_,rfl,by rw [swp_size];exact he,rfl,rfl,hT,by omega,by omega⟩
   (simp +decide only [go_sem,a02,a00,a03 f2,a01 _ f2]<;>rfl)<;>rfl
  ·rw [if_neg hij] at hT
   have d1:¬ (i:Int) < j:=by omega
   (repeat first|simp only [ww]|(apply xa;simp +decide only [go_sem,d1];rfl;kernel_rfl))
   rw [← hT]
   (apply fqb;simp +decide only [go_sem,h0,a01 _ f]<;>rfl)
def b1f:Hint → Int
 | .unknown=>0
 | .increasing=>1
 | .decreasing=>2
theorem c9a {d:Array Int} {a s n:Nat} (ha:0 < a) (hb:a + 1 < n):(medianAdjacent ltInt d a s).1 < n ∧ (medianAdjacent ltInt d a s).2 ≤ s + 3:=c6n (by omega) (by omega) hb
theorem d0t (n:Nat) (c:Option Nat) (d:Array Int) (rest:List (List AV)) (a b:Nat) (hrest:FlatR rest) (hn:n = d.size) (hab:a + 12 < b) (hb:b ≤ n) (hn1:n ≤ 1000) :
 sem L.env Mf 93 [.slice 0 0 n c,.int .i64 a,.int .i64 b] [some (.row 1 (rwA d ++ rest))] = some (.tuple [.int .i64 (choosePivot ltInt d a b).1,.int .i64 (b1f (choosePivot ltInt d a b).2)],[some (.row 1 (rwA d ++ rest))]):=by
 have f:=a07 (d:=d) hrest
 obtain ⟨l,hl⟩:∃ l,b = a + l:=⟨b - a,by omega⟩
 have hbl:b - a = l:=by omega
 have w1:IntKind.i64.wrap ((b:Int) - a) = (l:Int):=by rw [w64 (by omega) (by omega)];omega
 have w2:IntKind.i64.wrap ((l / 4:Nat):Int) = ((l / 4:Nat):Int):=w64 (by omega) (by omega)
 have w3:IntKind.i64.wrap (((l / 4:Nat):Int) * 1) = ((l / 4 * 1:Nat):Int):=by rw [w64 (by omega) (by omega)];omega
 have w4:IntKind.i64.wrap (((l / 4:Nat):Int) * 2) = ((l / 4 * 2:Nat):Int):=by rw [w64 (by omega) (by omega)];omega
 have w5:IntKind.i64.wrap (((l / 4:Nat):Int) * 3) = ((l / 4 * 3:Nat):Int):=by rw [w64 (by omega) (by omega)];omega
 have w7:IntKind.i64.wrap ((a:Int) + ((l / 4 * 2:Nat):Int)) = ((a + l / 4 * 2:Nat):Int):=by rw [w64 (by omega) (by omega)];omega
 have w8:IntKind.i64.wrap ((a:Int) + ((l / 4 * 3:Nat):Int)) = ((a + l / 4 * 3:Nat):Int):=by rw [w64 (by omega) (by omega)];omega
 have d1:(8:Int) ≤ l:=by omega
 obtain ⟨i,hi⟩:∃ i,i = a + l / 4 * 1:=⟨_,rfl⟩
 obtain ⟨j,hj⟩:∃ j,j = a + l / 4 * 2:=⟨_,rfl⟩
 obtain ⟨k,hk⟩:∃ k,k = a + l / 4 * 3:=⟨_,rfl⟩
 have hcp:choosePivot ltInt d a b = ((if l ≥ 50 then median ltInt d (medianAdjacent ltInt d i 0).1 (medianAdjacent ltInt d j (medianAdjacent ltInt d i 0).2).1 (medianAdjacent ltInt d k (medianAdjacent ltInt d j (medianAdjacent ltInt d i 0).2).2).1 (medianAdjacent ltInt d k (medianAdjacent ltInt d j (medianAdjacent ltInt d i 0).2).2).2 else median ltInt d i j k 0).1,
  if (if l ≥ 50 then median ltInt d (medianAdjacent ltInt d i 0).1 (medianAdjacent ltInt d j (medianAdjacent ltInt d i 0).2).1 (medianAdjacent ltInt d k (medianAdjacent ltInt d j (medianAdjacent ltInt d i 0).2).2).1 (medianAdjacent ltInt d k (medianAdjacent ltInt d j (medianAdjacent ltInt d i 0).2).2).2 else median ltInt d i j k 0).2 = 0 then .increasing else if (if l ≥ 50 then median ltInt d (medianAdjacent ltInt d i 0).1 (medianAdjacent ltInt d j (medianAdjacent ltInt d i 0).2).1 (medianAdjacent ltInt d k (medianAdjacent ltInt d j (medianAdjacent ltInt d i 0).2).2).1 (medianAdjacent ltInt d k (medianAdjacent ltInt d j (medianAdjacent ltInt d i 0).2).2).2 else median ltInt d i j k 0).2 = 12 then .decreasing else .unknown):=by
  unfold choosePivot
  simp only [hbl,← hi,← hj,← hk,show l ≥ 8 by omega,if_true]
 have w6:IntKind.i64.wrap ((a:Int) + ((l / 4:Nat):Int)) = (i:Int):=by rw [w64 (by omega) (by omega)];omega
 rw [← hj] at w7
 rw [← hk] at w8
 have key:∀ r:Nat × Nat,r.2 ≤ 12 → ∀ G:Prop,(r.2 = 0 → G) → (r.2 ≠ 0 → r.2 = 12 → G) → (r.2 ≠ 0 → r.2 ≠ 12 → G) → G:=by
  intro r _ G h1 h2 h3
  by_cases h:r.2 = 0
  ·exact h1 h
  ·by_cases h':r.2 = 12
   ·exact h2 h h'
   ·exact h3 h h'
 by_cases c50:l ≥ 50
 ·have d2:(50:Int) ≤ l:=by omega
  obtain ⟨a1,a2⟩:=c9a (d:=d) (a:=i) (s:=0) (n:=n) (by omega) (by omega)
  obtain ⟨b1,b2⟩:=c9a (d:=d) (a:=j) (s:=(medianAdjacent ltInt d i 0).2) (n:=n) (by omega) (by omega)
  obtain ⟨c1,c2⟩:=c9a (d:=d) (a:=k) (s:=(medianAdjacent ltInt d j (medianAdjacent ltInt d i 0).2).2) (n:=n) (by omega) (by omega)
  have k1:=b04 (d':=false) (by kernel_rfl) (by kernel_rfl) f rfl rfl rfl (c99 n c d rest i 0 hrest hn (by omega) (by omega) (by omega) hn1)
  have k2:=b04 (d':=false) (by kernel_rfl) (by kernel_rfl) f rfl rfl rfl (c99 n c d rest j (medianAdjacent ltInt d i 0).2 hrest hn (by omega) (by omega) (by omega) hn1)
  have k3:=b04 (d':=false) (by kernel_rfl) (by kernel_rfl) f rfl rfl rfl (c99 n c d rest k (medianAdjacent ltInt d j (medianAdjacent ltInt d i 0).2).2 hrest hn (by omega) (by omega) (by omega) hn1)
  have k4:=b04 (d':=false) (by kernel_rfl) (by kernel_rfl) f rfl rfl rfl (b2m n c d rest (medianAdjacent ltInt d i 0).1 (medianAdjacent ltInt d j (medianAdjacent ltInt d i 0).2).1 (medianAdjacent ltInt d k (medianAdjacent ltInt d j (medianAdjacent ltInt d i 0).2).2).1 (medianAdjacent ltInt d k (medianAdjacent ltInt d j (medianAdjacent ltInt d i 0).2).2).2 hrest hn a1 b1 c1 (by omega))
  simp only [Int.natCast_zero] at k1
  rw [hcp]
  simp only [c50,if_true]
  generalize (median ltInt d (medianAdjacent ltInt d i 0).1 (medianAdjacent ltInt d j (medianAdjacent ltInt d i 0).2).1 (medianAdjacent ltInt d k (medianAdjacent ltInt d j (medianAdjacent ltInt d i 0).2).2).1 (medianAdjacent ltInt d k (medianAdjacent ltInt d j (medianAdjacent ltInt d i 0).2).2).2) = r at k4 ⊢
  by_cases e0:r.2 = 0
  ·have e0':(r.2:Int) = 0:=by omega
   rw [if_pos e0]
   (refine sv Tryz.f93 ?_;simp only [Tryz.f93,gS])
   (repeat first|simp only [ww]|(apply xa;simp +decide only [go_sem,w1,w2,w3,w4,w5,w6,w7,w8,d1,d2,k1,k2,k3,k4,e0'];rfl;kernel_rfl))
   (apply fqb;simp +decide only [go_sem,a01 _ f,b1f]<;>rfl)
  ·have e0':¬ (r.2:Int) = 0:=by omega
   rw [if_neg e0]
   by_cases e1:r.2 = 12
   ·have e1':(r.2:Int) = 12:=by omega
    rw [if_pos e1]
    (refine sv Tryz.f93 ?_;simp only [Tryz.f93,gS])
    (repeat first|simp only [ww]|(apply xa;simp +decide only [go_sem,w1,w2,w3,w4,w5,w6,w7,w8,d1,d2,k1,k2,k3,k4,e0',e1'];rfl;kernel_rfl))
    (apply fqb;simp +decide only [go_sem,a01 _ f,b1f]<;>rfl)
   ·have e1':¬ (r.2:Int) = 12:=by omega
    rw [if_neg e1]
    (refine sv Tryz.f93 ?_;simp only [Tryz.f93,gS])
    (repeat first|simp only [ww]|(apply xa;simp +decide only [go_sem,w1,w2,w3,w4,w5,w6,w7,w8,d1,d2,k1,k2,k3,k4,e0',e1'];rfl;kernel_rfl))
    (apply fqb;simp +decide only [go_sem,a01 _ f,b1f]<;>rfl)
 ·have d2:¬ (50:Int) ≤ l:=by omega
  have k4:=b04 (d':=false) (by kernel_rfl) (by kernel_rfl) f rfl rfl rfl (b2m n c d rest i j k 0 hrest hn (by omega) (by omega) (by omega) (by omega))
  simp only [Int.natCast_zero] at k4
  rw [hcp]
  simp only [c50,if_false]
  generalize (median ltInt d i j k 0) = r at k4 ⊢
  by_cases e0:r.2 = 0
  ·have e0':(r.2:Int) = 0:=by omega
   rw [if_pos e0]
   (refine sv Tryz.f93 ?_;simp only [Tryz.f93,gS])
   (repeat first|simp only [ww]|(apply xa;simp +decide only [go_sem,w1,w2,w3,w4,w5,w6,w7,w8,d1,d2,k4,e0'];rfl;kernel_rfl))
   (apply fqb;simp +decide only [go_sem,a01 _ f,b1f]<;>rfl)
  ·have e0':¬ (r.2:Int) = 0:=by omega
   rw [if_neg e0]
   by_cases e1:r.2 = 12
   ·have e1':(r.2:Int) = 12:=by omega
    rw [if_pos e1]
    (refine sv Tryz.f93 ?_;simp only [Tryz.f93,gS])
    (repeat first|simp only [ww]|(apply xa;simp +decide only [go_sem,w1,w2,w3,w4,w5,w6,w7,w8,d1,d2,k4,e0',e1'];rfl;kernel_rfl))
    (apply fqb;simp +decide only [go_sem,a01 _ f,b1f]<;>rfl)
   ·have e1':¬ (r.2:Int) = 12:=by omega
    rw [if_neg e1]
    (refine sv Tryz.f93 ?_;simp only [Tryz.f93,gS])
    (repeat first|simp only [ww]|(apply xa;simp +decide only [go_sem,w1,w2,w3,w4,w5,w6,w7,w8,d1,d2,k4,e0',e1'];rfl;kernel_rfl))
    (apply fqb;simp +decide only [go_sem,a01 _ f,b1f]<;>rfl)
theorem b7u (a i j:Nat) (d:Array Int):partEqLoop ltInt a i j d = if scanUp (fun x=>!ltInt d[a]! x) d j i > scanDown (fun x=>ltInt d[a]! x) d (scanUp (fun x=>!ltInt d[a]! x) d j i) j then (scanUp (fun x=>!ltInt d[a]! x) d j i,d) else
 if scanDown (fun x=>ltInt d[a]! x) d (scanUp (fun x=>!ltInt d[a]! x) d j i) j - 1 + 1 - (scanUp (fun x=>!ltInt d[a]! x) d j i + 1) < j + 1 - i then partEqLoop ltInt a (scanUp (fun x=>!ltInt d[a]! x) d j i + 1) (scanDown (fun x=>ltInt d[a]! x) d (scanUp (fun x=>!ltInt d[a]! x) d j i) j - 1) (swp d (scanUp (fun x=>!ltInt d[a]! x) d j i) (scanDown (fun x=>ltInt d[a]! x) d (scanUp (fun x=>!ltInt d[a]! x) d j i) j)) else (scanUp (fun x=>!ltInt d[a]! x) d j i,d):=by
 conv=>lhs;unfold partEqLoop
 simp only [dite_eq_ite]
theorem c6a (n:Nat) (c:Option Nat) (d:Array Int) (rest:List (List AV)) (a b p:Nat) (hrest:FlatR rest) (hn:n = d.size) (hab:a + 1 < b) (hb:b ≤ n) (hn1:n ≤ 1000) (hp:p < n) :
 sem L.env Mf 97 [.slice 0 0 n c,.int .i64 a,.int .i64 b,.int .i64 p] [some (.row 1 (rwA d ++ rest))] = some (.int .i64 (partitionEqual ltInt d a b p).1,[some (.row 1 (rwA (partitionEqual ltInt d a b p).2 ++ rest))]):=by
 have hls:=fun d' H x y=>a5p (d:=d') H x y
 have w1:=wI1 (n:=a) (by omega)
 have w2:IntKind.i64.wrap ((b:Int) - 1) = ((b - 1:Nat):Int):=by rw [w64 (by omega) (by omega)];omega
 have s1:=a0f (d:=d) (rest:=rest) (i:=a) (by omega)
 have s2:=a0f (d:=d) (rest:=rest) (i:=p) (by omega)
 have s3:=a2c (d:=d) (rest:=rest) (i:=a) (j:=p) (by omega) (by omega)
 obtain ⟨y,s4⟩:=a1r (d:=d) (rest:=rest) (i:=a) (j:=p) (x:=d[p]!) (by omega) (by omega)
 have s5:a < n:=by omega
 have s6:p < n:=by omega
 have s7:∀ i x,((rwA d ++ rest).set i x).length = (rwA d ++ rest).length:=fun i x=>List.length_set
 have s8:n ≤ (rwA d ++ rest).length:=by rw [List.length_append,a1i];omega
 have hpe:partitionEqual ltInt d a b p = partEqLoop ltInt a (a + 1) (b - 1) (swp d a p):=rfl
 (refine sv Tryz.f97 ?_;simp only [Tryz.f97,gS])
 (repeat first|simp only [ww]|(apply xa;simp +decide only [go_sem,w1,w2,s1,s2,s3,s4,s5,s6,s7,s8];rfl;kernel_rfl))
 refine a24 kp97_0 (fun N F H=>∃ (i j:Nat) (e:Array Int),N = j + 2 - i ∧ e.size = n ∧ F = [(0,.slice 0 0 n c),(1,.int .i64 a),(9,.int .i64 i),(10,.int .i64 j)] ∧ H = [some (.row 1 (rwA e ++ rest))] ∧ a < i ∧ i ≤ n ∧ j < n ∧ i ≤ j + 2 ∧ partEqLoop ltInt a i j e = partitionEqual ltInt d a b p) (b - 1 + 2 - (a + 1)) ?_ ?_
 ·refine ⟨_,_,?_,a + 1,b - 1,_,rfl,by rw [Pc.swp_size];exact hn.symm,rfl,rfl,by omega,by omega,by omega,by omega,rfl⟩
  have f:=a07 (d:=swp d a p) hrest
  (simp +decide only [go_sem,a02,a00,a03 f,a01 _ f]<;>rfl)<;>rfl
 ·rintro N F H ⟨i,j,e,rfl,he,rfl,rfl,hi1,hi2',hj1,hij',hR⟩
  (repeat first|simp only [ww]|(apply xa;simp +decide only [go_sem];rfl;kernel_rfl))
  have f:=a07 (d:=e) hrest
  have hl:n ≤ (rwA e ++ rest).length:=by rw [List.length_append,a1i];omega
  refine a0l (σ:=Nat) kp97_2 (fun u=>[(0,.slice 0 0 n c),(1,.int .i64 a),(9,.int .i64 u),(10,.int .i64 j)]) (fun u=>[some (.row 1 (rwA e ++ rest))]) (fun u=>j + 2 - u) (fun u=>i ≤ u ∧ u ≤ j + 2 ∧ scanUp (fun x=>!ltInt e[a]! x) e j u = scanUp (fun x=>!ltInt e[a]! x) e j i) (i) ?_ ⟨by omega,by omega,rfl⟩ ?_
  ·(simp +decide only [go_sem,a02,a00,a03 f,a01 _ f]<;>rfl)<;>rfl
  ·rintro u ⟨u1,u2,hT⟩
   have h3:(u ≤ j ∧ ltInt e[a]! e[u]! = false) ∨ (((u ≤ j) ∧ ltInt e[a]! e[u]! = true) ∨ ¬ (u ≤ j)):=by
    by_cases h:u ≤ j
    ·cases hh:ltInt e[a]! e[u]!<;>simp [h]
    ·exact .inr (.inr h)
   rcases h3 with ⟨h,h1⟩|h3
   ·have d1:(u:Int) ≤ (j:Nat):=by omega
    have ka:a < n:=by omega
    have kq:u < n:=by omega
    have ga:=a0f (d:=e) (rest:=rest) (i:=a) (by omega)
    have gq:=a0f (d:=e) (rest:=rest) (i:=u) (by omega)
    have w:=wI1 (n:=u) (by omega)
    (repeat first|simp only [ww]|(apply xa;simp +decide only [go_sem,d1,ka,kq,hl,ga,gq,hls,h1,w];rfl;kernel_rfl))
    refine a1m (u + 1) ?_ (by omega) ⟨by omega,by omega,?_⟩
    ·(simp +decide only [go_sem,a02,a00,a03 f,a01 _ f]<;>rfl)<;>rfl
    ·rw [← hT]
     conv=>rhs;rw [a8f]
     have hg:(decide (u ≤ j) && (fun x=>!ltInt e[a]! x) e[u]!) = true:=by simp [h,h1]
     rw [if_pos hg]
   ·have hst:(decide (u ≤ j) && (fun x=>!ltInt e[a]! x) e[u]!) = false:=by
     rcases h3 with ⟨h,h1⟩|h
     ·simp [h1]
     ·simp [h]
    have hu:scanUp (fun x=>!ltInt e[a]! x) e j i = u:=by rw [← hT,a8f,hst,if_neg (by simp)]
    have h4:(((u:Int) ≤ (j:Nat)) ∧ ltInt e[a]! e[u]! = true ∧ (rwA e ++ rest)[u]? = some [AV.int .i64 e[u]!] ∧ u < n ∧ a < n) ∨ ((¬ (u:Int) ≤ (j:Nat)) ∧ (0:Nat) < 1 ∧ (0:Nat) < 1 ∧ (0:Nat) < 1 ∧ (0:Nat) < 1):=by
     rcases h3 with ⟨h,h1⟩|h
     ·exact .inl ⟨by omega,h1,a0f (by omega),by omega,by omega⟩
     ·exact .inr ⟨by omega,by decide,by decide,by decide,by decide⟩
    have ga:=a0f (d:=e) (rest:=rest) (i:=a) (by omega)
    rcases h4 with ⟨d1,d2,d3,d4,d5⟩|⟨d1,d2,d3,d4,d5⟩
    all_goals
     (repeat first|simp only [ww]|(apply xa;simp +decide only [go_sem,d1,d2,d3,d4,d5,hl,ga,hls];rfl;kernel_rfl))
     have f:=a07 (d:=e) hrest
     have hl:n ≤ (rwA e ++ rest).length:=by rw [List.length_append,a1i];omega
     refine a0l (σ:=Nat) kp97_4 (fun v=>[(0,.slice 0 0 n c),(1,.int .i64 a),(9,.int .i64 u),(10,.int .i64 v)]) (fun v=>[some (.row 1 (rwA e ++ rest))]) (fun v=>v) (fun v=>v ≤ j ∧ u ≤ v + 2 ∧ scanDown (fun x=>ltInt e[a]! x) e u v = scanDown (fun x=>ltInt e[a]! x) e u j) (j) ?_ ⟨by omega,by omega,rfl⟩ ?_
     ·(simp +decide only [go_sem,a02,a00,a03 f,a01 _ f]<;>rfl)<;>rfl
     ·rintro v ⟨v1,v2,hT⟩
      have h3:(u ≤ v ∧ ltInt e[a]! e[v]! = true) ∨ (((u ≤ v) ∧ ltInt e[a]! e[v]! = false) ∨ ¬ (u ≤ v)):=by
       by_cases h:u ≤ v
       ·cases hh:ltInt e[a]! e[v]!<;>simp [h]
       ·exact .inr (.inr h)
      rcases h3 with ⟨h,h1⟩|h3
      ·have d1:((u:Nat):Int) ≤ v:=by omega
       have ka:a < n:=by omega
       have kq:v < n:=by omega
       have ga:=a0f (d:=e) (rest:=rest) (i:=a) (by omega)
       have gq:=a0f (d:=e) (rest:=rest) (i:=v) (by omega)
       have w:IntKind.i64.wrap ((v:Int) - 1) = ((v - 1:Nat):Int):=by rw [w64 (by omega) (by omega)];omega
       (repeat first|simp only [ww]|(apply xa;simp +decide only [go_sem,d1,ka,kq,hl,ga,gq,hls,h1,w];rfl;kernel_rfl))
       refine a1m (v - 1) ?_ (by omega) ⟨by omega,by omega,?_⟩
       ·(simp +decide only [go_sem,a02,a00,a03 f,a01 _ f]<;>rfl)<;>rfl
       ·rw [← hT]
        obtain ⟨r,rfl⟩:∃ r,v = r + 1:=⟨v - 1,by omega⟩
        have hg:(decide (u ≤ (r + 1)) && (fun x=>ltInt e[a]! x) e[(r + 1)]!) = true:=by simp [h,h1]
        rw [a58,if_pos hg];rfl
      ·have hst:(decide (u ≤ v) && (fun x=>ltInt e[a]! x) e[v]!) = false:=by
        rcases h3 with ⟨h,h1⟩|h
        ·simp [h1]
        ·simp [h]
       have hv:scanDown (fun x=>ltInt e[a]! x) e u j = v:=by
        rw [← hT]
        cases v with
        | zero=>rfl
        | succ r=>rw [a58,hst,if_neg (by simp)]
       have h4:((((u:Nat):Int) ≤ v) ∧ ltInt e[a]! e[v]! = false ∧ (rwA e ++ rest)[v]? = some [AV.int .i64 e[v]!] ∧ v < n ∧ a < n) ∨ ((¬ ((u:Nat):Int) ≤ v) ∧ (0:Nat) < 1 ∧ (0:Nat) < 1 ∧ (0:Nat) < 1 ∧ (0:Nat) < 1):=by
        rcases h3 with ⟨h,h1⟩|h
        ·exact .inl ⟨by omega,h1,a0f (by omega),by omega,by omega⟩
        ·exact .inr ⟨by omega,by decide,by decide,by decide,by decide⟩
       have ga:=a0f (d:=e) (rest:=rest) (i:=a) (by omega)
       rcases h4 with ⟨d1,d2,d3,d4,d5⟩|⟨d1,d2,d3,d4,d5⟩
       all_goals
        rw [b7u,hu,hv] at hR
        by_cases hij:u > v
        ·have c2:(v:Int) < u:=by omega
         rw [if_pos hij] at hR
         (repeat first|simp only [ww]|(apply xa;simp +decide only [go_sem,d1,d2,d3,d4,d5,hl,ga,hls,c2];rfl;kernel_rfl))
         rw [e2t]
         (repeat first|simp only [ww]|(apply xa;simp +decide only [go_sem];rfl;kernel_rfl))
         rw [← hR]
         (apply fqb;simp +decide only [go_sem,a01 _ f]<;>rfl)
        ·have c2:¬ (v:Int) < u:=by omega
         rw [if_neg hij,if_pos (by omega)] at hR
         have w3:=wI1 (n:=u) (by omega)
         have w4:IntKind.i64.wrap ((v:Int) - 1) = ((v - 1:Nat):Int):=by rw [w64 (by omega) (by omega)];omega
         have s1:=a0f (d:=e) (rest:=rest) (i:=u) (by omega)
         have s2:=a0f (d:=e) (rest:=rest) (i:=v) (by omega)
         have s3:=a2c (d:=e) (rest:=rest) (i:=u) (j:=v) (by omega) (by omega)
         obtain ⟨y,s4⟩:=a1r (d:=e) (rest:=rest) (i:=u) (j:=v) (x:=e[v]!) (by omega) (by omega)
         have s5:u < n:=by omega
         have s6:v < n:=by omega
         have s7:∀ i x,((rwA e ++ rest).set i x).length = (rwA e ++ rest).length:=fun i x=>List.length_set
         have s8:n ≤ (rwA e ++ rest).length:=by rw [List.length_append,a1i];omega
         (repeat first|simp only [ww]|(apply xa;simp +decide only [go_sem,d1,d2,d3,d4,d5,hl,ga,hls,c2,w3,w4,s1,s2,s3,s4,s5,s6,s7,s8];rfl;kernel_rfl))
         refine a12 (v - 1 + 2 - (u + 1)) (by omega) ⟨_,_,?_,u + 1,v - 1,_,rfl,by rw [Pc.swp_size];exact he,rfl,rfl,by omega,by omega,by omega,by omega,hR⟩
         have f2:=a07 (d:=swp e u v) hrest
         (simp +decide only [go_sem,a02,a00,a03 f2,a01 _ f2]<;>rfl)<;>rfl
set_option maxHeartbeats 200000000
set_option maxHeartbeats 2000000
theorem e7q (m:Nat) (k:List Nat) (J:Nat → Frm → a06 → Prop) (n:Nat) (Q:b0a) (F:Frm) (H:a06):bk 5 (lpJ m k J n (bk 4 Q)) (.exit 4) F H = Q .normal F H:=rfl
theorem b62 (n:Nat) (c:Option Nat) (d:Array Int) (rest:List (List AV)) (a b p:Nat) (hrest:FlatR rest) (hn:n = d.size) (hab:a + 1 < b) (hb:b ≤ n) (hn1:n ≤ 1000) (hp:p < n) :
 sem L.env Mf 98 [.slice 0 0 n c,.int .i64 a,.int .i64 b,.int .i64 p] [some (.row 1 (rwA d ++ rest))] = some (.tuple [.int .i64 (partition ltInt d a b p).1,.bool (partition ltInt d a b p).2.1],[some (.row 1 (rwA (partition ltInt d a b p).2.2 ++ rest))]):=by
 have hls:=fun d' H x y=>a5p (d:=d') H x y
 have w1:=wI1 (n:=a) (by omega)
 have w2:IntKind.i64.wrap ((b:Int) - 1) = ((b - 1:Nat):Int):=by rw [w64 (by omega) (by omega)];omega
 have s1:=a0f (d:=d) (rest:=rest) (i:=a) (by omega)
 have s2:=a0f (d:=d) (rest:=rest) (i:=p) (by omega)
 have s3:=a2c (d:=d) (rest:=rest) (i:=a) (j:=p) (by omega) (by omega)
 obtain ⟨y,s4⟩:=a1r (d:=d) (rest:=rest) (i:=a) (j:=p) (x:=d[p]!) (by omega) (by omega)
 have s5:a < n:=by omega
 have s6:p < n:=by omega
 have s7:∀ i x,((rwA d ++ rest).set i x).length = (rwA d ++ rest).length:=fun i x=>List.length_set
 have s8:n ≤ (rwA d ++ rest).length:=by rw [List.length_append,a1i];omega
 have hpe:partition ltInt d a b p = if scanUp (fun x=>ltInt x (swp d a p)[a]!) (swp d a p) (b - 1) (a + 1) > scanDown (fun x=>!ltInt x (swp d a p)[a]!) (swp d a p) (scanUp (fun x=>ltInt x (swp d a p)[a]!) (swp d a p) (b - 1) (a + 1)) (b - 1) then (scanDown (fun x=>!ltInt x (swp d a p)[a]!) (swp d a p) (scanUp (fun x=>ltInt x (swp d a p)[a]!) (swp d a p) (b - 1) (a + 1)) (b - 1),true,swp (swp d a p) (scanDown (fun x=>!ltInt x (swp d a p)[a]!) (swp d a p) (scanUp (fun x=>ltInt x (swp d a p)[a]!) (swp d a p) (b - 1) (a + 1)) (b - 1)) a) else
  ((partLoop ltInt a (scanUp (fun x=>ltInt x (swp d a p)[a]!) (swp d a p) (b - 1) (a + 1) + 1) (scanDown (fun x=>!ltInt x (swp d a p)[a]!) (swp d a p) (scanUp (fun x=>ltInt x (swp d a p)[a]!) (swp d a p) (b - 1) (a + 1)) (b - 1) - 1) (swp (swp d a p) (scanUp (fun x=>ltInt x (swp d a p)[a]!) (swp d a p) (b - 1) (a + 1)) (scanDown (fun x=>!ltInt x (swp d a p)[a]!) (swp d a p) (scanUp (fun x=>ltInt x (swp d a p)[a]!) (swp d a p) (b - 1) (a + 1)) (b - 1)))).1,false,swp (partLoop ltInt a (scanUp (fun x=>ltInt x (swp d a p)[a]!) (swp d a p) (b - 1) (a + 1) + 1) (scanDown (fun x=>!ltInt x (swp d a p)[a]!) (swp d a p) (scanUp (fun x=>ltInt x (swp d a p)[a]!) (swp d a p) (b - 1) (a + 1)) (b - 1) - 1) (swp (swp d a p) (scanUp (fun x=>ltInt x (swp d a p)[a]!) (swp d a p) (b - 1) (a + 1)) (scanDown (fun x=>!ltInt x (swp d a p)[a]!) (swp d a p) (scanUp (fun x=>ltInt x (swp d a p)[a]!) (swp d a p) (b - 1) (a + 1)) (b - 1)))).2 (partLoop ltInt a (scanUp (fun x=>ltInt x (swp d a p)[a]!) (swp d a p) (b - 1) (a + 1) + 1) (scanDown (fun x=>!ltInt x (swp d a p)[a]!) (swp d a p) (scanUp (fun x=>ltInt x (swp d a p)[a]!) (swp d a p) (b - 1) (a + 1)) (b - 1) - 1) (swp (swp d a p) (scanUp (fun x=>ltInt x (swp d a p)[a]!) (swp d a p) (b - 1) (a + 1)) (scanDown (fun x=>!ltInt x (swp d a p)[a]!) (swp d a p) (scanUp (fun x=>ltInt x (swp d a p)[a]!) (swp d a p) (b - 1) (a + 1)) (b - 1)))).1 a):=rfl
 have he:(swp d a p).size = n:=by rw [Pc.swp_size];exact hn.symm
 (refine sv Tryz.f98 ?_;simp only [Tryz.f98,gS])
 (repeat first|simp only [ww]|(apply xa;simp +decide only [go_sem,w1,w2,s1,s2,s3,s4,s5,s6,s7,s8];rfl;kernel_rfl))
 generalize swp d a p = e at *
 clear s1 s2 s3 s4 s5 s6 s7 s8
 have f:=a07 (d:=e) hrest
 have hl:n ≤ (rwA e ++ rest).length:=by rw [List.length_append,a1i];omega
 refine a0l (σ:=Nat) kp98_0 (fun u=>[(0,.slice 0 0 n c),(1,.int .i64 a),(10,.int .i64 (u:Nat)),(11,.int .i64 ((b - 1):Nat))]) (fun u=>[some (.row 1 (rwA e ++ rest))]) (fun u=>(b - 1) + 2 - u) (fun u=>(a + 1) ≤ u ∧ u ≤ (b - 1) + 2 ∧ scanUp (fun x=>ltInt x e[a]!) e (b - 1) u = scanUp (fun x=>ltInt x e[a]!) e (b - 1) (a + 1)) ((a + 1)) ?_ ⟨by omega,by omega,rfl⟩ ?_
 ·(simp +decide only [go_sem,a02,a00,a03 f,a01 _ f]<;>rfl)<;>rfl
 ·rintro u ⟨u1,u2,hT⟩
  have h3:(u ≤ (b - 1) ∧ ltInt e[u]! e[a]! = true) ∨ (((u ≤ (b - 1)) ∧ ltInt e[u]! e[a]! = false) ∨ ¬ (u ≤ (b - 1))):=by
   by_cases h:u ≤ (b - 1)
   ·cases hh:ltInt e[u]! e[a]!<;>simp [h]
   ·exact .inr (.inr h)
  rcases h3 with ⟨h,h1⟩|h3
  ·have d1:(u:Int) ≤ ((b - 1):Nat):=by omega
   have ka:a < n:=by omega
   have kq:u < n:=by omega
   have ga:=a0f (d:=e) (rest:=rest) (i:=a) (by omega)
   have gq:=a0f (d:=e) (rest:=rest) (i:=u) (by omega)
   have w:=wI1 (n:=u) (by omega)
   (repeat first|simp only [ww]|(apply xa;simp +decide only [go_sem,d1,ka,kq,hl,ga,gq,hls,h1,w];rfl;kernel_rfl))
   refine a1m (u + 1) ?_ (by omega) ⟨by omega,by omega,?_⟩
   ·(simp +decide only [go_sem,a02,a00,a03 f,a01 _ f]<;>rfl)<;>rfl
   ·rw [← hT]
    conv=>rhs;rw [a8f]
    have hg:(decide (u ≤ (b - 1)) && (fun x=>ltInt x e[a]!) e[u]!) = true:=by simp [h,h1]
    rw [if_pos hg]
  ·have hst:(decide (u ≤ (b - 1)) && (fun x=>ltInt x e[a]!) e[u]!) = false:=by
    rcases h3 with ⟨h,h1⟩|h
    ·simp [h1]
    ·simp [h]
   have hu:scanUp (fun x=>ltInt x e[a]!) e (b - 1) (a + 1) = u:=by rw [← hT,a8f,hst,if_neg (by simp)]
   have h4:(((u:Int) ≤ ((b - 1):Nat)) ∧ ltInt e[u]! e[a]! = false ∧ (rwA e ++ rest)[u]? = some [AV.int .i64 e[u]!] ∧ u < n ∧ a < n) ∨ ((¬ (u:Int) ≤ ((b - 1):Nat)) ∧ (0:Nat) < 1 ∧ (0:Nat) < 1 ∧ (0:Nat) < 1 ∧ (0:Nat) < 1):=by
    rcases h3 with ⟨h,h1⟩|h
    ·exact .inl ⟨by omega,h1,a0f (by omega),by omega,by omega⟩
    ·exact .inr ⟨by omega,by decide,by decide,by decide,by decide⟩
   have ga:=a0f (d:=e) (rest:=rest) (i:=a) (by omega)
   rcases h4 with ⟨d1,d2,d3,d4,d5⟩|⟨d1,d2,d3,d4,d5⟩
   all_goals
    (repeat first|simp only [ww]|(apply xa;simp +decide only [go_sem,d1,d2,d3,d4,d5,hl,ga,hls];rfl;kernel_rfl))
    have f:=a07 (d:=e) hrest
    have hl:n ≤ (rwA e ++ rest).length:=by rw [List.length_append,a1i];omega
    refine a0l (σ:=Nat) kp98_2 (fun v=>[(0,.slice 0 0 n c),(1,.int .i64 a),(10,.int .i64 (u:Nat)),(11,.int .i64 (v:Nat))]) (fun v=>[some (.row 1 (rwA e ++ rest))]) (fun v=>v) (fun v=>v ≤ (b - 1) ∧ u ≤ v + 2 ∧ scanDown (fun x=>!ltInt x e[a]!) e u v = scanDown (fun x=>!ltInt x e[a]!) e u (b - 1)) ((b - 1)) ?_ ⟨by omega,by omega,rfl⟩ ?_
    ·(simp +decide only [go_sem,a02,a00,a03 f,a01 _ f]<;>rfl)<;>rfl
    ·rintro v ⟨v1,v2,hT⟩
     have h3:(u ≤ v ∧ ltInt e[v]! e[a]! = false) ∨ (((u ≤ v) ∧ ltInt e[v]! e[a]! = true) ∨ ¬ (u ≤ v)):=by
      by_cases h:u ≤ v
      ·cases hh:ltInt e[v]! e[a]!<;>simp [h]
      ·exact .inr (.inr h)
     rcases h3 with ⟨h,h1⟩|h3
     ·have d1:((u:Nat):Int) ≤ v:=by omega
      have ka:a < n:=by omega
      have kq:v < n:=by omega
      have ga:=a0f (d:=e) (rest:=rest) (i:=a) (by omega)
      have gq:=a0f (d:=e) (rest:=rest) (i:=v) (by omega)
      have w:IntKind.i64.wrap ((v:Int) - 1) = ((v - 1:Nat):Int):=by rw [w64 (by omega) (by omega)];omega
      (repeat first|simp only [ww]|(apply xa;simp +decide only [go_sem,d1,ka,kq,hl,ga,gq,hls,h1,w];rfl;kernel_rfl))
      refine a1m (v - 1) ?_ (by omega) ⟨by omega,by omega,?_⟩
      ·(simp +decide only [go_sem,a02,a00,a03 f,a01 _ f]<;>rfl)<;>rfl
      ·rw [← hT]
       obtain ⟨r,rfl⟩:∃ r,v = r + 1:=⟨v - 1,by omega⟩
       have hg:(decide (u ≤ (r + 1)) && (fun x=>!ltInt x e[a]!) e[(r + 1)]!) = true:=by simp [h,h1]
       rw [a58,if_pos hg];rfl
     ·have hst:(decide (u ≤ v) && (fun x=>!ltInt x e[a]!) e[v]!) = false:=by
       rcases h3 with ⟨h,h1⟩|h
       ·simp [h1]
       ·simp [h]
      have hv:scanDown (fun x=>!ltInt x e[a]!) e u (b - 1) = v:=by
       rw [← hT]
       cases v with
       | zero=>rfl
       | succ r=>rw [a58,hst,if_neg (by simp)]
      have h4:((((u:Nat):Int) ≤ v) ∧ ltInt e[v]! e[a]! = true ∧ (rwA e ++ rest)[v]? = some [AV.int .i64 e[v]!] ∧ v < n ∧ a < n) ∨ ((¬ ((u:Nat):Int) ≤ v) ∧ (0:Nat) < 1 ∧ (0:Nat) < 1 ∧ (0:Nat) < 1 ∧ (0:Nat) < 1):=by
       rcases h3 with ⟨h,h1⟩|h
       ·exact .inl ⟨by omega,h1,a0f (by omega),by omega,by omega⟩
       ·exact .inr ⟨by omega,by decide,by decide,by decide,by decide⟩
      have ga:=a0f (d:=e) (rest:=rest) (i:=a) (by omega)
      rcases h4 with ⟨d1,d2,d3,d4,d5⟩|⟨d1,d2,d3,d4,d5⟩
      all_goals
       rw [hpe,hu,hv]
       by_cases hij:u > v
       ·have c2:(v:Int) < u:=by omega
        rw [if_pos hij]
        have s1:=a0f (d:=e) (rest:=rest) (i:=v) (by omega)
        have s2:=a0f (d:=e) (rest:=rest) (i:=a) (by omega)
        have s3:=a2c (d:=e) (rest:=rest) (i:=v) (j:=a) (by omega) (by omega)
        obtain ⟨y,s4⟩:=a1r (d:=e) (rest:=rest) (i:=v) (j:=a) (x:=e[a]!) (by omega) (by omega)
        have s5:v < n:=by omega
        have s6:a < n:=by omega
        have s7:∀ i x,((rwA e ++ rest).set i x).length = (rwA e ++ rest).length:=fun i x=>List.length_set
        have s8:n ≤ (rwA e ++ rest).length:=by rw [List.length_append,a1i];omega
        (repeat first|simp only [ww]|(apply xa;simp +decide only [go_sem,d1,d2,d3,d4,d5,hl,ga,hls,c2,s1,s2,s3,s4,s5,s6,s7,s8];rfl;kernel_rfl))
        have f2:=a07 (d:=swp e v a) hrest
        (apply fqb;simp +decide only [go_sem,a01 _ f2]<;>rfl)
       ·have c2:¬ (v:Int) < u:=by omega
        rw [if_neg hij]
        have w3:=wI1 (n:=u) (by omega)
        have w4:IntKind.i64.wrap ((v:Int) - 1) = ((v - 1:Nat):Int):=by rw [w64 (by omega) (by omega)];omega
        have s1:=a0f (d:=e) (rest:=rest) (i:=u) (by omega)
        have s2:=a0f (d:=e) (rest:=rest) (i:=v) (by omega)
        have s3:=a2c (d:=e) (rest:=rest) (i:=u) (j:=v) (by omega) (by omega)
        obtain ⟨y,s4⟩:=a1r (d:=e) (rest:=rest) (i:=u) (j:=v) (x:=e[v]!) (by omega) (by omega)
        have s5:u < n:=by omega
        have s6:v < n:=by omega
        have s7:∀ i x,((rwA e ++ rest).set i x).length = (rwA e ++ rest).length:=fun i x=>List.length_set
        have s8:n ≤ (rwA e ++ rest).length:=by rw [List.length_append,a1i];omega
        (repeat first|simp only [ww]|(apply xa;simp +decide only [go_sem,d1,d2,d3,d4,d5,hl,ga,hls,c2,w3,w4,s1,s2,s3,s4,s5,s6,s7,s8];rfl;kernel_rfl))
        refine a24 kp98_4 (fun N F H=>∃ (i j:Nat) (x:Array Int),N = j + 2 - i ∧ x.size = n ∧ F = [(0,.slice 0 0 n c),(1,.int .i64 a),(10,.int .i64 i),(11,.int .i64 j)] ∧ H = [some (.row 1 (rwA x ++ rest))] ∧ a < i ∧ i ≤ n ∧ j < n ∧ i ≤ j + 2 ∧ partLoop ltInt a i j x = partLoop ltInt a (u + 1) (v - 1) (swp e u v)) (v - 1 + 2 - (u + 1)) ?_ ?_
        ·refine ⟨_,_,?_,u + 1,v - 1,_,rfl,by rw [Pc.swp_size];exact he,rfl,rfl,by omega,by omega,by omega,by omega,rfl⟩
         have f2:=a07 (d:=swp e u v) hrest
         (simp +decide only [go_sem,a02,a00,a03 f2,a01 _ f2]<;>rfl)<;>rfl
        ·generalize swp e u v = z
         clear hpe hu hv
         generalize u + 1 = u0
         generalize v - 1 = v0
         rintro N F H ⟨i,j,e,rfl,he,rfl,rfl,hi1,hi2',hj1,hij',hR⟩
         (repeat first|simp only [ww]|(apply xa;simp +decide only [go_sem];rfl;kernel_rfl))
         have f:=a07 (d:=e) hrest
         have hl:n ≤ (rwA e ++ rest).length:=by rw [List.length_append,a1i];omega
         refine a0l (σ:=Nat) kp98_6 (fun u=>[(0,.slice 0 0 n c),(1,.int .i64 a),(10,.int .i64 (u:Nat)),(11,.int .i64 (j:Nat))]) (fun u=>[some (.row 1 (rwA e ++ rest))]) (fun u=>j + 2 - u) (fun u=>i ≤ u ∧ u ≤ j + 2 ∧ scanUp (fun x=>ltInt x e[a]!) e j u = scanUp (fun x=>ltInt x e[a]!) e j i) (i) ?_ ⟨by omega,by omega,rfl⟩ ?_
         ·(simp +decide only [go_sem,a02,a00,a03 f,a01 _ f]<;>rfl)<;>rfl
         ·rintro u ⟨u1,u2,hT⟩
          have h3:(u ≤ j ∧ ltInt e[u]! e[a]! = true) ∨ (((u ≤ j) ∧ ltInt e[u]! e[a]! = false) ∨ ¬ (u ≤ j)):=by
           by_cases h:u ≤ j
           ·cases hh:ltInt e[u]! e[a]!<;>simp [h]
           ·exact .inr (.inr h)
          rcases h3 with ⟨h,h1⟩|h3
          ·have d1:(u:Int) ≤ (j:Nat):=by omega
           have ka:a < n:=by omega
           have kq:u < n:=by omega
           have ga:=a0f (d:=e) (rest:=rest) (i:=a) (by omega)
           have gq:=a0f (d:=e) (rest:=rest) (i:=u) (by omega)
           have w:=wI1 (n:=u) (by omega)
           (repeat first|simp only [ww]|(apply xa;simp +decide only [go_sem,d1,ka,kq,hl,ga,gq,hls,h1,w];rfl;kernel_rfl))
           refine a1m (u + 1) ?_ (by omega) ⟨by omega,by omega,?_⟩
           ·(simp +decide only [go_sem,a02,a00,a03 f,a01 _ f]<;>rfl)<;>rfl
           ·rw [← hT]
            conv=>rhs;rw [a8f]
            have hg:(decide (u ≤ j) && (fun x=>ltInt x e[a]!) e[u]!) = true:=by simp [h,h1]
            rw [if_pos hg]
          ·have hst:(decide (u ≤ j) && (fun x=>ltInt x e[a]!) e[u]!) = false:=by
            rcases h3 with ⟨h,h1⟩|h
            ·simp [h1]
            ·simp [h]
           have hu:scanUp (fun x=>ltInt x e[a]!) e j i = u:=by rw [← hT,a8f,hst,if_neg (by simp)]
           have h4:(((u:Int) ≤ (j:Nat)) ∧ ltInt e[u]! e[a]! = false ∧ (rwA e ++ rest)[u]? = some [AV.int .i64 e[u]!] ∧ u < n ∧ a < n) ∨ ((¬ (u:Int) ≤ (j:Nat)) ∧ (0:Nat) < 1 ∧ (0:Nat) < 1 ∧ (0:Nat) < 1 ∧ (0:Nat) < 1):=by
            rcases h3 with ⟨h,h1⟩|h
            ·exact .inl ⟨by omega,h1,a0f (by omega),by omega,by omega⟩
            ·exact .inr ⟨by omega,by decide,by decide,by decide,by decide⟩
           have ga:=a0f (d:=e) (rest:=rest) (i:=a) (by omega)
           rcases h4 with ⟨d1,d2,d3,d4,d5⟩|⟨d1,d2,d3,d4,d5⟩
           all_goals
            (repeat first|simp only [ww]|(apply xa;simp +decide only [go_sem,d1,d2,d3,d4,d5,hl,ga,hls];rfl;kernel_rfl))
            have f:=a07 (d:=e) hrest
            have hl:n ≤ (rwA e ++ rest).length:=by rw [List.length_append,a1i];omega
            refine a0l (σ:=Nat) kp98_8 (fun v=>[(0,.slice 0 0 n c),(1,.int .i64 a),(10,.int .i64 (u:Nat)),(11,.int .i64 (v:Nat))]) (fun v=>[some (.row 1 (rwA e ++ rest))]) (fun v=>v) (fun v=>v ≤ j ∧ u ≤ v + 2 ∧ scanDown (fun x=>!ltInt x e[a]!) e u v = scanDown (fun x=>!ltInt x e[a]!) e u j) (j) ?_ ⟨by omega,by omega,rfl⟩ ?_
            ·(simp +decide only [go_sem,a02,a00,a03 f,a01 _ f]<;>rfl)<;>rfl
            ·rintro v ⟨v1,v2,hT⟩
             have h3:(u ≤ v ∧ ltInt e[v]! e[a]! = false) ∨ (((u ≤ v) ∧ ltInt e[v]! e[a]! = true) ∨ ¬ (u ≤ v)):=by
              by_cases h:u ≤ v
              ·cases hh:ltInt e[v]! e[a]!<;>simp [h]
              ·exact .inr (.inr h)
             rcases h3 with ⟨h,h1⟩|h3
             ·have d1:((u:Nat):Int) ≤ v:=by omega
              have ka:a < n:=by omega
              have kq:v < n:=by omega
              have ga:=a0f (d:=e) (rest:=rest) (i:=a) (by omega)
              have gq:=a0f (d:=e) (rest:=rest) (i:=v) (by omega)
              have w:IntKind.i64.wrap ((v:Int) - 1) = ((v - 1:Nat):Int):=by rw [w64 (by omega) (by omega)];omega
              (repeat first|simp only [ww]|(apply xa;simp +decide only [go_sem,d1,ka,kq,hl,ga,gq,hls,h1,w];rfl;kernel_rfl))
              refine a1m (v - 1) ?_ (by omega) ⟨by omega,by omega,?_⟩
              ·(simp +decide only [go_sem,a02,a00,a03 f,a01 _ f]<;>rfl)<;>rfl
              ·rw [← hT]
               obtain ⟨r,rfl⟩:∃ r,v = r + 1:=⟨v - 1,by omega⟩
               have hg:(decide (u ≤ (r + 1)) && (fun x=>!ltInt x e[a]!) e[(r + 1)]!) = true:=by simp [h,h1]
               rw [a58,if_pos hg];rfl
             ·have hst:(decide (u ≤ v) && (fun x=>!ltInt x e[a]!) e[v]!) = false:=by
               rcases h3 with ⟨h,h1⟩|h
               ·simp [h1]
               ·simp [h]
              have hv:scanDown (fun x=>!ltInt x e[a]!) e u j = v:=by
               rw [← hT]
               cases v with
               | zero=>rfl
               | succ r=>rw [a58,hst,if_neg (by simp)]
              have h4:((((u:Nat):Int) ≤ v) ∧ ltInt e[v]! e[a]! = true ∧ (rwA e ++ rest)[v]? = some [AV.int .i64 e[v]!] ∧ v < n ∧ a < n) ∨ ((¬ ((u:Nat):Int) ≤ v) ∧ (0:Nat) < 1 ∧ (0:Nat) < 1 ∧ (0:Nat) < 1 ∧ (0:Nat) < 1):=by
               rcases h3 with ⟨h,h1⟩|h
               ·exact .inl ⟨by omega,h1,a0f (by omega),by omega,by omega⟩
               ·exact .inr ⟨by omega,by decide,by decide,by decide,by decide⟩
              have ga:=a0f (d:=e) (rest:=rest) (i:=a) (by omega)
              rcases h4 with ⟨d1,d2,d3,d4,d5⟩|⟨d1,d2,d3,d4,d5⟩
              all_goals
               rw [c39,hu,hv] at hR
               by_cases hij:u > v
               ·have c2:(v:Int) < u:=by omega
                rw [if_pos hij] at hR
                have s1:=a0f (d:=e) (rest:=rest) (i:=v) (by omega)
                have s2:=a0f (d:=e) (rest:=rest) (i:=a) (by omega)
                have s3:=a2c (d:=e) (rest:=rest) (i:=v) (j:=a) (by omega) (by omega)
                obtain ⟨y,s4⟩:=a1r (d:=e) (rest:=rest) (i:=v) (j:=a) (x:=e[a]!) (by omega) (by omega)
                have s5:v < n:=by omega
                have s6:a < n:=by omega
                have s7:∀ i x,((rwA e ++ rest).set i x).length = (rwA e ++ rest).length:=fun i x=>List.length_set
                have s8:n ≤ (rwA e ++ rest).length:=by rw [List.length_append,a1i];omega
                (repeat first|simp only [ww]|(apply xa;simp +decide only [go_sem,d1,d2,d3,d4,d5,hl,ga,hls,c2];rfl;kernel_rfl))
                rw [e7q]
                (repeat first|simp only [ww]|(apply xa;simp +decide only [go_sem,s1,s2,s3,s4,s5,s6,s7,s8];rfl;kernel_rfl))
                rw [← hR]
                have f2:=a07 (d:=swp e v a) hrest
                (apply fqb;simp +decide only [go_sem,a01 _ f2]<;>rfl)
               ·have c2:¬ (v:Int) < u:=by omega
                rw [if_neg hij,if_pos (by omega)] at hR
                have w3:=wI1 (n:=u) (by omega)
                have w4:IntKind.i64.wrap ((v:Int) - 1) = ((v - 1:Nat):Int):=by rw [w64 (by omega) (by omega)];omega
                have s1:=a0f (d:=e) (rest:=rest) (i:=u) (by omega)
                have s2:=a0f (d:=e) (rest:=rest) (i:=v) (by omega)
                have s3:=a2c (d:=e) (rest:=rest) (i:=u) (j:=v) (by omega) (by omega)
                obtain ⟨y,s4⟩:=a1r (d:=e) (rest:=rest) (i:=u) (j:=v) (x:=e[v]!) (by omega) (by omega)
                have s5:u < n:=by omega
                have s6:v < n:=by omega
                have s7:∀ i x,((rwA e ++ rest).set i x).length = (rwA e ++ rest).length:=fun i x=>List.length_set
                have s8:n ≤ (rwA e ++ rest).length:=by rw [List.length_append,a1i];omega
                (repeat first|simp only [ww]|(apply xa;simp +decide only [go_sem,d1,d2,d3,d4,d5,hl,ga,hls,c2,w3,w4,s1,s2,s3,s4,s5,s6,s7,s8];rfl;kernel_rfl))
                refine a12 (v - 1 + 2 - (u + 1)) (by omega) ⟨_,_,?_,u + 1,v - 1,_,rfl,by rw [Pc.swp_size];exact he,rfl,rfl,by omega,by omega,by omega,by omega,hR⟩
                have f2:=a07 (d:=swp e u v) hrest
                (simp +decide only [go_sem,a02,a00,a03 f2,a01 _ f2]<;>rfl)<;>rfl
end Go.MInst
