/- Part of a proof. No condition. -/
import Derived.Test.YtbmkmaobejlkgaaGreatDoorQGa
import Derived.Test.YtbmkmaobejlkgaaGreatDoorAxD
import Derived.Test.YtbmkmaobejlkgaaGreatDoorPcP
set_option linter.unusedSimpArgs false
set_option linter.unusedVariables false
namespace Go.QInst
open Go.Proofs Go.Ax Go.Pc Go.Sort
set_option maxRecDepth 100000
theorem c7b(x:Int):sem L.env Mf 182 [.int .i64 x] []=some (.bool false,[]):=by
 (refine sv Tryz.f182 ?_;simp only[Tryz.f182,gS])
 (repeat first|simp only[ww]|(apply xa;simp+decide only[go_sem];rfl;kernel_rfl))
 (apply fqb;simp+decide only[go_sem]<;>rfl)
theorem d62(x y:Int):sem L.env Mf 145 [.int .i64 x,.int .i64 y] []=some (.bool (ltInt x y),[]):=by
 have hn:=λ(d:Bool) H x=>a07 (E:=L.env) (draw:=d) (call:=sem L.env Mf) (g:=182) (fs:=[]) (cs:=[]) (ar:=[.int .i64 x]) (H:=H) (by kernel_rfl) (by kernel_rfl) rfl rfl (c7b x) rfl;have hl:ltInt x y=decide (x<y):=rfl
 (refine sv Tryz.f145 ?_;simp only[Tryz.f145,gS])
 (repeat first|simp only[ww]|(apply xa;simp+decide only[go_sem,hn];rfl;kernel_rfl))
 (apply fqb;simp+decide only[go_sem,hl]<;>rfl)
theorem a4y{d:Bool}(H:a04)(x y:Int):a0d L.env d (sem L.env Mf) (.func (.func 145) [] []) [.int .i64 x,.int .i64 y] H=some (.bool (ltInt x y),H,[]):=a07 (by kernel_rfl) (by kernel_rfl) rfl rfl (d62 x y) rfl
theorem e1j(n:Nat)(c:Option Nat)(d:Array Int)(rest:List (List AV))(a b:Nat)(hrest:FlatR rest)(hn:n=d.size)(hab:a≤b)(hb:b≤n)(hn1:n≤1000) :
 sem L.env Mf 139 [.slice 0 0 n c,.int .i64 a,.int .i64 b] [some (.row 1 (rwA d++rest))]=some (.tuple [],[some (.row 1 (rwA (insertionSort ltInt d a b)++rest))]):=by
 have hls:=λd' H x y=>a4y (d:=d') H x y;have h0:a2p [] = .tuple []:=rfl;have hwa:=wI1 (n:=a) (by omega)
 (refine sv Tryz.f139 ?_;simp only[Tryz.f139,gS])
 (repeat first|simp only[ww]|(apply xa;simp+decide only[go_sem,hwa];rfl;kernel_rfl))
 refine a0t kp139_0 (λN F H=>∃(i:Nat) (e:Array Int),N=b-i∧a<i∧e.size=n∧F=[(0,.slice 0 0 n c),(1,.int .i64 a),(2,.int .i64 b),(6,.int .i64 i)]∧H=[some (.row 1 (rwA e++rest))]∧insOuter ltInt a b i e=insertionSort ltInt d a b) (b-(a+1)) ?_ ?_
 ·refine⟨_,_,?_,a+1,d,rfl,Nat.lt_succ_self _,hn.symm,rfl,rfl,rfl⟩;have f:=a06 (d:=d) hrest
  (simp+decide only[go_sem,a03,a00,a05 f,a02 _ f]<;>rfl)<;>rfl
 ·rintro N F H ⟨i,e,rfl,hai,he,rfl,rfl,hT⟩
  by_cases hib:i<b
  ·have c1:(i:Int)<b:=by omega
   have hwi:=wI1 (n:=i) (by omega);have hT2:insOuter ltInt a b (i+1) (insInner ltInt a i e)=insertionSort ltInt d a b:=by rw[←hT,b5b a b i,if_pos hib]
   (repeat first|simp only[ww]|(apply xa;simp+decide only[go_sem,c1];rfl;kernel_rfl))
   refine a0t kp139_2 (λN F H=>∃(j:Nat) (e':Array Int),N=j+1∧j≤i∧e'.size=n∧F=[(0,.slice 0 0 n c),(1,.int .i64 a),(2,.int .i64 b),(6,.int .i64 i),(7,.int .i64 j)]∧H=[some (.row 1 (rwA e'++rest))]∧insInner ltInt a j e'=insInner ltInt a i e) (i+1) ?_ ?_
   ·refine⟨_,_,?_,i,e,rfl,Nat.le_refl _,he,rfl,rfl,rfl⟩;have f:=a06 (d:=e) hrest
    (simp+decide only[go_sem,a03,a00,a05 f,a02 _ f]<;>rfl)<;>rfl
   ·rintro N F H ⟨j,e',rfl,hji,he',rfl,rfl,hI⟩
    have f:=a06 (d:=e') hrest;have hl:n≤(rwA e'++rest).length:=by rw[List.length_append,a15];omega
    by_cases hja:a<j
    ·obtain⟨q,rfl⟩:∃q,j=q+1:=⟨j-1,by omega⟩
     have d1:(a:Int)<((q+1:Nat):Int):=by omega
     have hwq:IntKind.i64.wrap (((q+1:Nat):Int)-1)=(q:Int):=by rw[w64 (by omega) (by omega)];omega
     have hq1:q+1<n:=by omega
     have hq0:q<n:=by omega
     have g1:=a0c (d:=e') (rest:=rest) (i:=q+1) (by omega);have g0:=a0c (d:=e') (rest:=rest) (i:=q) (by omega);have hs:=a1z (d:=e') (rest:=rest) (i:=q+1) (j:=q) (by omega) (by omega);have hls2:∀x,((rwA e'++rest).set (q+1) x).length=(rwA e'++rest).length:=λx=>List.length_set;rw[b5c]at hI;cases hlt:ltInt e'[q+1]! e'[q]! with
     |true=>
      rw[if_pos (by simp[hja,hlt])]at hI;obtain⟨y,hg2⟩:=a1e (d:=e') (rest:=rest) (i:=q+1) (j:=q) (x:=e'[q]!) (by omega) (by omega)
      (repeat first|simp only[ww]|(apply xa;simp+decide only[go_sem,d1,hwq,hq1,hq0,hl,hls2,g1,g0,hls,hlt,hg2,hs];rfl;kernel_rfl))
      refine a0b (q+1) (by omega) ⟨_,_,?_,q,_,rfl,by omega,by rw[swp_size];exact he',rfl,rfl,hI⟩;have f2:=a06 (d:=swp e' (q+1) q) hrest
      (simp+decide only[go_sem,a03,a00,a05 f2,a02 _ f2]<;>rfl)<;>rfl
     |false=>
      rw[if_neg (by simp[hlt])]at hI
      (repeat first|simp only[ww]|(apply xa;simp+decide only[go_sem,d1,hwq,hq1,hq0,hl,g1,g0,hls,hlt,hwi];rfl;kernel_rfl))
      refine a0b (b-(i+1)) (by omega) ⟨_,_,?_,i+1,e',rfl,by omega,he',rfl,rfl,by rw[hI];exact hT2⟩
      (simp+decide only[go_sem,a03,a00,a05 f,a02 _ f]<;>rfl)<;>rfl
    ·have d1:¬(a:Int)<j:=by omega
     have hI2:insInner ltInt a j e'=e':=by
      cases j with
      |zero=>rfl
      |succ q=>rw[b5c,if_neg (by simp;omega)]
     rw[hI2]at hI
     (repeat first|simp only[ww]|(apply xa;simp+decide only[go_sem,d1,hwi];rfl;kernel_rfl))
     refine a0b (b-(i+1)) (by omega) ⟨_,_,?_,i+1,e',rfl,by omega,he',rfl,rfl,by rw[hI];exact hT2⟩
     (simp+decide only[go_sem,a03,a00,a05 f,a02 _ f]<;>rfl)<;>rfl
  ·have c1:¬(i:Int)<b:=by omega
   have hT2:insOuter ltInt a b i e=e:=by rw[b5b,if_neg hib]
   rw[hT2]at hT;have f:=a06 (d:=e) hrest
   (repeat first|simp only[ww]|(apply xa;simp+decide only[go_sem,c1];rfl;kernel_rfl))
   rw[←hT]
   (apply fqb;simp+decide only[go_sem,h0,a02 _ f]<;>rfl)
theorem e2s(Q:a6h)(F:Frm)(H:a04):bk 1 Q (.exit 0) F H=Q (.exit 0) F H:=rfl
theorem d4r(n:Nat)(c:Option Nat)(d:Array Int)(rest:List (List AV))(lo hi fi:Nat)(hrest:FlatR rest)(hn:n=d.size)(hb:fi+hi≤n)(hn1:n≤1000)(hlo:lo≤1000) :
 sem L.env Mf 177 [.slice 0 0 n c,.int .i64 lo,.int .i64 hi,.int .i64 fi] [some (.row 1 (rwA d++rest))]=some (.tuple [],[some (.row 1 (rwA (siftDown ltInt hi fi lo d)++rest))]):=by
 have hls:=λd' H x y=>a4y (d:=d') H x y;have h0:a2p [] = .tuple []:=rfl
 (refine sv Tryz.f177 ?_;simp only[Tryz.f177,gS])
 (repeat first|simp only[ww]|(apply xa;simp+decide only[go_sem];rfl;kernel_rfl))
 refine a0t kp177_0 (λN F H=>∃(r:Nat) (e:Array Int),N=hi-r∧e.size=n∧F=[(0,.slice 0 0 n c),(2,.int .i64 hi),(3,.int .i64 fi),(8,.int .i64 r)]∧H=[some (.row 1 (rwA e++rest))]∧siftDown ltInt hi fi r e=siftDown ltInt hi fi lo d∧r≤1000) (hi-lo) ?_ ?_
 ·refine⟨_,_,?_,lo,d,rfl,hn.symm,rfl,rfl,rfl,hlo⟩;have f:=a06 (d:=d) hrest
  (simp+decide only[go_sem,a03,a00,a05 f,a02 _ f]<;>rfl)<;>rfl
 ·rintro N F H ⟨r,e,rfl,he,rfl,rfl,hT,hr⟩
  have f:=a06 (d:=e) hrest;have hl:n≤(rwA e++rest).length:=by rw[List.length_append,a15];omega
  have hls2:∀i x,((rwA e++rest).set i x).length=(rwA e++rest).length:=λi x=>List.length_set;have hw1:IntKind.i64.wrap (2*(r:Int))=((2*r:Nat):Int):=by rw[w64 (by omega) (by omega)];omega
  have hw2:IntKind.i64.wrap (((2*r:Nat):Int)+1)=((2*r+1:Nat):Int):=by rw[w64 (by omega) (by omega)];omega
  have hw3:IntKind.i64.wrap (((2*r+1:Nat):Int)+1)=((2*r+2:Nat):Int):=by rw[w64 (by omega) (by omega)];omega
  rw[a9m hi fi r]at hT;by_cases c1:2*r+1≥hi
  ·rw[if_pos c1]at hT;have d1:(hi:Int)≤((2*r+1:Nat):Int):=by omega
   (repeat first|simp only[ww]|(apply xa;simp+decide only[go_sem,hw1,hw2,d1];rfl;kernel_rfl))
   rw[e2s]
   (repeat first|simp only[ww]|(apply xa;simp+decide only[go_sem];rfl;kernel_rfl))
   rw[←hT]
   (apply fqb;simp+decide only[go_sem,h0,a02 _ f]<;>rfl)
  ·rw[if_neg c1]at hT;have d1:¬(hi:Int)≤((2*r+1:Nat):Int):=by omega
   have g0:=a0c (d:=e) (rest:=rest) (i:=fi+r) (by omega);have k0:fi+r<n:=by omega
   have w0:IntKind.i64.wrap ((fi:Int)+(r:Int))=((fi+r:Nat):Int):=by rw[w64 (by omega) (by omega)];omega
   have g1:=a0c (d:=e) (rest:=rest) (i:=fi+(2*r+1)) (by omega);have k1:fi+(2*r+1)<n:=by omega
   have w1:IntKind.i64.wrap ((fi:Int)+((2*r+1:Nat):Int))=((fi+(2*r+1):Nat):Int):=by rw[w64 (by omega) (by omega)];omega
   by_cases c2:2*r+2<hi
   ·have d2:((2*r+2:Nat):Int)<hi:=by omega
    have g3:=a0c (d:=e) (rest:=rest) (i:=fi+(2*r+1)+1) (by omega);have k3:fi+(2*r+1)+1<n:=by omega
    have w3:IntKind.i64.wrap (((fi+(2*r+1):Nat):Int)+1)=((fi+(2*r+1)+1:Nat):Int):=by rw[w64 (by omega) (by omega)];omega
    cases hl1:ltInt e[fi+(2*r+1)]! e[fi+(2*r+1)+1]! with
    |true=>
     simp only[show 2*r+1+1<hi from c2,hl1,decide_true,Bool.and_self,if_true]at hT;have g2:=a0c (d:=e) (rest:=rest) (i:=fi+(2*r+2)) (by omega);have k2:fi+(2*r+2)<n:=by omega
     have w2:IntKind.i64.wrap ((fi:Int)+((2*r+2:Nat):Int))=((fi+(2*r+2):Nat):Int):=by rw[w64 (by omega) (by omega)];omega
     cases hl2:ltInt e[fi+r]! e[fi+(2*r+2)]! with
     |false=>
      simp only[hl2,Bool.not_false,if_true]at hT
      (repeat first|simp only[ww]|(apply xa;simp+decide only[go_sem,hw1,hw2,hw3,hl,hls,d1,d2,g1,g3,k1,k3,w1,w3,hl1,g0,g2,k0,k2,w0,w2,hl2];rfl;kernel_rfl))
      rw[←hT]
      (apply fqb;simp+decide only[go_sem,h0,a02 _ f]<;>rfl)
     |true=>
      simp only[hl2,Bool.not_true,Bool.false_eq_true,if_false]at hT;have hs:=a1z (d:=e) (rest:=rest) (i:=fi+r) (j:=fi+(2*r+2)) (by omega) (by omega);obtain⟨y,hg3⟩:=a1e (d:=e) (rest:=rest) (i:=fi+r) (j:=fi+(2*r+2)) (x:=e[fi+(2*r+2)]!) (by omega) (by omega)
      (repeat first|simp only[ww]|(apply xa;simp+decide only[go_sem,hw1,hw2,hw3,hl,hls,d1,d2,g1,g3,k1,k3,w1,w3,hl1,g0,g2,k0,k2,w0,w2,hl2,hls2,hg3,hs];rfl;kernel_rfl))
      refine a0b (hi-(2*r+2)) (by omega) ⟨_,_,?_,2*r+2,_,rfl,by rw[swp_size];exact he,rfl,rfl,hT,by omega⟩;have f2:=a06 (d:=swp e (fi+r) (fi+(2*r+2))) hrest
      (simp+decide only[go_sem,a03,a00,a05 f2,a02 _ f2]<;>rfl)<;>rfl
    |false=>
     simp only[hl1,Bool.and_false,Bool.false_eq_true,if_false]at hT;have g2:=a0c (d:=e) (rest:=rest) (i:=fi+(2*r+1)) (by omega);have k2:fi+(2*r+1)<n:=by omega
     have w2:IntKind.i64.wrap ((fi:Int)+((2*r+1:Nat):Int))=((fi+(2*r+1):Nat):Int):=by rw[w64 (by omega) (by omega)];omega
     cases hl2:ltInt e[fi+r]! e[fi+(2*r+1)]! with
     |false=>
      simp only[hl2,Bool.not_false,if_true]at hT
      (repeat first|simp only[ww]|(apply xa;simp+decide only[go_sem,hw1,hw2,hw3,hl,hls,d1,d2,g1,g3,k1,k3,w1,w3,hl1,g0,g2,k0,k2,w0,w2,hl2];rfl;kernel_rfl))
      rw[←hT]
      (apply fqb;simp+decide only[go_sem,h0,a02 _ f]<;>rfl)
     |true=>
      simp only[hl2,Bool.not_true,Bool.false_eq_true,if_false]at hT;have hs:=a1z (d:=e) (rest:=rest) (i:=fi+r) (j:=fi+(2*r+1)) (by omega) (by omega);obtain⟨y,hg3⟩:=a1e (d:=e) (rest:=rest) (i:=fi+r) (j:=fi+(2*r+1)) (x:=e[fi+(2*r+1)]!) (by omega) (by omega)
      (repeat first|simp only[ww]|(apply xa;simp+decide only[go_sem,hw1,hw2,hw3,hl,hls,d1,d2,g1,g3,k1,k3,w1,w3,hl1,g0,g2,k0,k2,w0,w2,hl2,hls2,hg3,hs];rfl;kernel_rfl))
      refine a0b (hi-(2*r+1)) (by omega) ⟨_,_,?_,2*r+1,_,rfl,by rw[swp_size];exact he,rfl,rfl,hT,by omega⟩;have f2:=a06 (d:=swp e (fi+r) (fi+(2*r+1))) hrest
      (simp+decide only[go_sem,a03,a00,a05 f2,a02 _ f2]<;>rfl)<;>rfl
   ·have d2:¬((2*r+2:Nat):Int)<hi:=by omega
    simp only[show ¬2*r+1+1<hi from c2,decide_false,Bool.false_and,Bool.false_eq_true,if_false]at hT;have g2:=a0c (d:=e) (rest:=rest) (i:=fi+(2*r+1)) (by omega);have k2:fi+(2*r+1)<n:=by omega
    have w2:IntKind.i64.wrap ((fi:Int)+((2*r+1:Nat):Int))=((fi+(2*r+1):Nat):Int):=by rw[w64 (by omega) (by omega)];omega
    cases hl2:ltInt e[fi+r]! e[fi+(2*r+1)]! with
    |false=>
     simp only[hl2,Bool.not_false,if_true]at hT
     (repeat first|simp only[ww]|(apply xa;simp+decide only[go_sem,hw1,hw2,hw3,hl,hls,d1,d2,g0,g2,k0,k2,w0,w2,hl2];rfl;kernel_rfl))
     rw[←hT]
     (apply fqb;simp+decide only[go_sem,h0,a02 _ f]<;>rfl)
    |true=>
     simp only[hl2,Bool.not_true,Bool.false_eq_true,if_false]at hT;have hs:=a1z (d:=e) (rest:=rest) (i:=fi+r) (j:=fi+(2*r+1)) (by omega) (by omega);obtain⟨y,hg3⟩:=a1e (d:=e) (rest:=rest) (i:=fi+r) (j:=fi+(2*r+1)) (x:=e[fi+(2*r+1)]!) (by omega) (by omega)
     (repeat first|simp only[ww]|(apply xa;simp+decide only[go_sem,hw1,hw2,hw3,hl,hls,d1,d2,g0,g2,k0,k2,w0,w2,hl2,hls2,hg3,hs];rfl;kernel_rfl))
     refine a0b (hi-(2*r+1)) (by omega) ⟨_,_,?_,2*r+1,_,rfl,by rw[swp_size];exact he,rfl,rfl,hT,by omega⟩;have f2:=a06 (d:=swp e (fi+r) (fi+(2*r+1))) hrest
     (simp+decide only[go_sem,a03,a00,a05 f2,a02 _ f2]<;>rfl)<;>rfl
theorem b0g{d:Bool}{g:FuncId}{args:List AV}{R R':List (List AV)}{v:AV}(hx:L.env.ext g=false)(hf:(L.env.fn g).isSome=true)(hR:FlatR R)(hR':FlatR R')(ha:a0a args=[0])(hm:args.map (ren (a3w [0]))=args)(hv:ren (a0s [0] 1) v=v)
 (h:sem L.env Mf g args [some (.row 1 R)]=some (v,[some (.row 1 R')])):a0d L.env d (sem L.env Mf) (.func (.func g) [] []) args [some (.row 1 R)]=some (v,[some (.row 1 R')],[0]):=
 a2z (E:=L.env) (draw:=d) (call:=sem L.env Mf) (fs:=[]) (cs:=[]) (ar:=args) (H:=[some (.row 1 R)]) (b:=0) hx hf (by simp) rfl (a0m hR) (FlatO.row hR) ha hm h (FlatO.row hR') hv
theorem b87{d':Bool}(n:Nat)(c:Option Nat)(d:Array Int)(rest:List (List AV))(lo hi fi:Nat)(hrest:FlatR rest)(hn:n=d.size)(hb:fi+hi≤n)(hn1:n≤1000)(hlo:lo≤1000) :
 a0d L.env d' (sem L.env Mf) (.func (.func 177) [] []) [.slice 0 0 n c,.int .i64 lo,.int .i64 hi,.int .i64 fi] [some (.row 1 (rwA d++rest))]=some (.tuple [],[some (.row 1 (rwA (siftDown ltInt hi fi lo d)++rest))],[0]):=
 b0g (by kernel_rfl) (by kernel_rfl) (a06 hrest) (a06 hrest) rfl rfl rfl (d4r n c d rest lo hi fi hrest hn hb hn1 hlo)
theorem a8g(hi fi:Nat):∀(m r:Nat) (d:Array Int),hi-r≤m→(siftDown ltInt hi fi r d).size=d.size
 |0,r,d,h=>by rw[a9m,if_pos (by omega)]
 |m+1,r,d,h=>by
  rw[a9m];by_cases c1:2*r+1≥hi
  ·rw[if_pos c1]
  ·rw[if_neg c1];split
   ·split
    ·rfl
    ·split
     ·rw[a8g hi fi m _ _ (by omega),swp_size]
     ·rfl
   ·split
    ·rfl
    ·rw[a8g hi fi m _ _ (by omega),swp_size]
theorem d6d(n:Nat)(c:Option Nat)(d:Array Int)(rest:List (List AV))(a b:Nat)(hrest:FlatR rest)(hn:n=d.size)(hab:a+12<b)(hb:b≤n)(hn1:n≤1000) :
 sem L.env Mf 140 [.slice 0 0 n c,.int .i64 a,.int .i64 b] [some (.row 1 (rwA d++rest))]=some (.tuple [],[some (.row 1 (rwA (heapSort ltInt d a b)++rest))]):=by
 have h0:a2p [] = .tuple []:=rfl;obtain⟨h,hh⟩:∃h,b=a+h:=⟨b-a,by omega⟩
 have hT:heapSort ltInt d a b=heapPop ltInt a h (heapBuild ltInt h a ((h-1)/2+1) d):=by unfold heapSort;rw[show b-a=h by omega]
 have hw1:IntKind.i64.wrap ((b:Int)-a)=(h:Int):=by rw[w64 (by omega) (by omega)];omega
 have hw2:IntKind.i64.wrap ((h:Int)-1)=((h-1:Nat):Int):=by rw[w64 (by omega) (by omega)];omega
 have hw3:IntKind.i64.wrap (((h-1)/2:Nat):Int)=((h-1)/2:Nat):=w64 (by omega) (by omega);rw[hT]
 (refine sv Tryz.f140 ?_;simp only[Tryz.f140,gS])
 (repeat first|simp only[ww]|(apply xa;simp+decide only[go_sem,hw1,hw2,hw3];rfl;kernel_rfl))
 refine a0t kp140_0 (λN F H=>∃(k:Nat) (e:Array Int),N=k+1∧k≤h∧e.size=n∧F=[(0,.slice 0 0 n c),(6,.int .i64 a),(7,.int .i64 0),(8,.int .i64 h),(9,.int .i64 ((k:Int)-1))]∧H=[some (.row 1 (rwA e++rest))]∧heapBuild ltInt h a k e=heapBuild ltInt h a ((h-1)/2+1) d) ((h-1)/2+2) ?_ ?_
 ·have f:=a06 (d:=d) hrest;have e1:((((h-1)/2+1:Nat):Int)-1)=(((h-1)/2:Nat):Int):=by omega
  refine⟨[(0,.slice 0 0 n c),(6,.int .i64 a),(7,.int .i64 0),(8,.int .i64 h),(9,.int .i64 (((h-1)/2:Nat):Int))],[some (.row 1 (rwA d++rest))],by(simp+decide only[go_sem,a03,a00,a05 f,a02 _ f]<;>rfl)<;>rfl,(h-1)/2+1,d,rfl,by omega,hn.symm,by rw[e1],rfl,rfl⟩
 ·rintro N F H ⟨k,e,rfl,hk,he,rfl,rfl,hB⟩
  have f:=a06 (d:=e) hrest;cases k with
  |succ q=>
   have e1:(((q+1:Nat):Int)-1)=(q:Int):=by omega
   have d1:(0:Int)≤q:=by omega
   have hw4:IntKind.i64.wrap ((q:Int)-1)=(q:Int)-1:=w64 (by omega) (by omega);have hs:=b87 (d':=false) n c e rest q h a hrest he.symm (by omega) hn1 (by omega);have f2:=a06 (d:=siftDown ltInt h a q e) hrest;rw[e1]
   (repeat first|simp only[ww]|(apply xa;simp+decide only[go_sem,d1,hs,hw4];rfl;kernel_rfl))
   refine a0b (q+1) (by omega) ⟨_,_,?_,q,_,rfl,by omega,by rw[a8g h a (h-q) q e (Nat.le_refl _)];exact he,rfl,rfl,hB⟩
   (simp+decide only[go_sem,a03,a00,a05 f2,a02 _ f2]<;>rfl)<;>rfl
  |zero=>
   have hB:e=heapBuild ltInt h a ((h-1)/2+1) d:=hB;have d1:¬(0:Int)≤((0:Nat):Int)-1:=by omega
   rw[←hB]
   (repeat first|simp only[ww]|(apply xa;simp+decide only[go_sem,d1,hw2];rfl;kernel_rfl))
   refine a0t kp140_2 (λN F H=>∃(k:Nat) (e':Array Int),N=k+1∧k≤h∧e'.size=n∧F=[(0,.slice 0 0 n c),(6,.int .i64 a),(7,.int .i64 0),(10,.int .i64 ((k:Int)-1))]∧H=[some (.row 1 (rwA e'++rest))]∧heapPop ltInt a k e'=heapPop ltInt a h e) (h+1) ?_ ?_
   ·have e1:((h:Int)-1)=((h-1:Nat):Int):=by omega
    refine⟨[(0,.slice 0 0 n c),(6,.int .i64 a),(7,.int .i64 0),(10,.int .i64 ((h-1:Nat):Int))],[some (.row 1 (rwA e++rest))],by(simp+decide only[go_sem,a03,a00,a05 f,a02 _ f]<;>rfl)<;>rfl,h,e,rfl,Nat.le_refl _,he,by rw[e1],rfl,rfl⟩
   ·rintro N F H ⟨k,e',rfl,hk,he',rfl,rfl,hP⟩
    have f:=a06 (d:=e') hrest;cases k with
    |succ q=>
     have e1:(((q+1:Nat):Int)-1)=(q:Int):=by omega
     have d1:(0:Int)≤q:=by omega
     have hw4:IntKind.i64.wrap ((q:Int)-1)=(q:Int)-1:=w64 (by omega) (by omega);have hw5:IntKind.i64.wrap ((a:Int)+(q:Int))=((a+q:Nat):Int):=by rw[w64 (by omega) (by omega)];omega
     have hl:n≤(rwA e'++rest).length:=by rw[List.length_append,a15];omega
     have hls2:∀i x,((rwA e'++rest).set i x).length=(rwA e'++rest).length:=λi x=>List.length_set;have k0:a<n:=by omega
     have k1:a+q<n:=by omega
     have g0:=a0c (d:=e') (rest:=rest) (i:=a) (by omega);have g1:=a0c (d:=e') (rest:=rest) (i:=a+q) (by omega);have hs:=a1z (d:=e') (rest:=rest) (i:=a) (j:=a+q) (by omega) (by omega);obtain⟨y,hg3⟩:=a1e (d:=e') (rest:=rest) (i:=a) (j:=a+q) (x:=e'[a+q]!) (by omega) (by omega);have hsi:=b87 (d':=false) n c (swp e' a (a+q)) rest 0 q a hrest (by rw[swp_size];exact he'.symm) (by omega) hn1 (by omega);simp only[Int.natCast_zero]at hsi;have f2:=a06 (d:=siftDown ltInt q a 0 (swp e' a (a+q))) hrest;rw[e1]
     (repeat first|simp only[ww]|(apply xa;simp+decide only[go_sem,d1,hw4,hw5,hl,hls2,k0,k1,g0,g1,hg3,hs,hsi];rfl;kernel_rfl))
     refine a0b (q+1) (by omega) ⟨_,_,?_,q,_,rfl,by omega,by rw[a8g q a (q-0) 0 _ (Nat.le_refl _),swp_size];exact he',rfl,rfl,hP⟩
     (simp+decide only[go_sem,a03,a00,a05 f2,a02 _ f2]<;>rfl)<;>rfl
    |zero=>
     have hP:e'=heapPop ltInt a h e:=hP;rw[←hP]
     (repeat first|simp only[ww]|(apply xa;simp+decide only[go_sem,d1];rfl;kernel_rfl))
     (apply fqb;simp+decide only[go_sem,h0,a02 _ f]<;>rfl)
theorem a6y{d:Array Int}{a b s n:Nat}(ha:a<n)(hb:b<n):(order2 ltInt d a b s).1<n∧(order2 ltInt d a b s).2.1<n∧(order2 ltInt d a b s).2.2≤s+1:=by unfold order2;split<;>(simp only;omega)
theorem b2k(n:Nat)(c:Option Nat)(d:Array Int)(rest:List (List AV))(a b s:Nat)(hrest:FlatR rest)(hn:n=d.size)(ha:a<n)(hb:b<n)(hs:s≤100) :
 sem L.env Mf 195 [.slice 0 0 n c,.int .i64 a,.int .i64 b,.ptr 1 0 0] [some (.row 1 (rwA d++rest)),some (.row 1 [[.int .i64 s]])]=some (.tuple [.int .i64 (order2 ltInt d a b s).1,.int .i64 (order2 ltInt d a b s).2.1],[some (.row 1 (rwA d++rest)),some (.row 1 [[.int .i64 (order2 ltInt d a b s).2.2]])]):=by
 have hls:=λd' H x y=>a4y (d:=d') H x y;have f:=a06 (d:=d) hrest;have hl:n≤(rwA d++rest).length:=by rw[List.length_append,a15];omega
 have g0:=a0c (d:=d) (rest:=rest) (i:=a) (by omega);have g1:=a0c (d:=d) (rest:=rest) (i:=b) (by omega);have hw:=wI1 (n:=s) (by omega);have ho:order2 ltInt d a b s=if ltInt d[b]! d[a]! then(b,a,s+1)else(a,b,s):=rfl
 cases hlt:ltInt d[b]! d[a]! with
 |true=>
  rw[ho,hlt,if_pos rfl]
  (refine sv Tryz.f195 ?_;simp only[Tryz.f195,gS])
  (repeat first|simp only[ww]|(apply xa;simp+decide only[go_sem,ha,hb,hl,g0,g1,hls,hlt,hw];rfl;kernel_rfl))
  (apply fqb;simp+decide only[go_sem,a02 _ f]<;>rfl)
 |false=>
  rw[ho,hlt,if_neg (by simp)]
  (refine sv Tryz.f195 ?_;simp only[Tryz.f195,gS])
  (repeat first|simp only[ww]|(apply xa;simp+decide only[go_sem,ha,hb,hl,g0,g1,hls,hlt,hw];rfl;kernel_rfl))
  (apply fqb;simp+decide only[go_sem,a02 _ f]<;>rfl)
theorem a97{d':Bool}{g:FuncId}{args:List AV}{R:List (List AV)}{s s':Nat}{v:AV}(hx:L.env.ext g=false)(hf:(L.env.fn g).isSome=true)(hR:FlatR R)(ha:a0a args=[0,1])(hm:args.map (ren (a3w [0,1]))=args)(hv:ren (a0s [0,1] 2) v=v)
 (h:sem L.env Mf g args [some (.row 1 R),some (.row 1 [[.int .i64 s]])]=some (v,[some (.row 1 R),some (.row 1 [[.int .i64 s']])])) :
 a0d L.env d' (sem L.env Mf) (.func (.func g) [] []) args [some (.row 1 R),some (.row 1 [[.int .i64 s]])]=some (v,[some (.row 1 R),some (.row 1 [[.int .i64 s']])],[0,1]):=by
 have r:=λπ=>a02 π hR;have z:=a05 hR;have hc:=a18 (sem L.env Mf g) args [some (.row 1 R),some (.row 1 [[.int .i64 s]])] (σ:=[0,1]) (by rw[ha];simp+decide only[go_sem,z]) rfl rfl hm (H0:=[some (.row 1 R),some (.row 1 [[.int .i64 s]])]) (by simp only[a19,List.map_cons,List.map_nil,a01,List.getElem?_cons_succ,List.getElem?_cons_zero,Option.join_some,Option.map_some,a0e,r];rfl) h;refine a96 hx hf (by simp) (hc.trans ?_) rfl;have hv2:ren (a0s [0,1] ([some (AObj.row 1 R),some (AObj.row 1 [[AV.int .i64 s]])]:a04).length) v=v:=hv;rw[hv2];simp+decide only[go_sem,r]<;>rfl
theorem c6w{d:Array Int}{a b c s n:Nat}(ha:a<n)(hb:b<n)(hc:c<n):(median ltInt d a b c s).1<n∧(median ltInt d a b c s).2≤s+3:=by obtain⟨h1,h2,h3⟩:=a6y (d:=d) (s:=s) ha hb;obtain⟨h4,h5,h6⟩:=a6y (d:=d) (s:=(order2 ltInt d a b s).2.2) h2 hc;obtain⟨h7,h8,h9⟩:=a6y (d:=d) (s:=(order2 ltInt d (order2 ltInt d a b s).2.1 c (order2 ltInt d a b s).2.2).2.2) h1 h4;exact⟨h8,by show(order2 ltInt d _ _ _).2.2≤_;omega⟩
theorem b2r(n:Nat)(cp:Option Nat)(d:Array Int)(rest:List (List AV))(a b c s:Nat)(hrest:FlatR rest)(hn:n=d.size)(ha:a<n)(hb:b<n)(hc:c<n)(hs:s≤90) :
 sem L.env Mf 181 [.slice 0 0 n cp,.int .i64 a,.int .i64 b,.int .i64 c,.ptr 1 0 0] [some (.row 1 (rwA d++rest)),some (.row 1 [[.int .i64 s]])]=some (.int .i64 (median ltInt d a b c s).1,[some (.row 1 (rwA d++rest)),some (.row 1 [[.int .i64 (median ltInt d a b c s).2]])]):=by
 have f:=a06 (d:=d) hrest;obtain⟨h1,h2,h3⟩:=a6y (d:=d) (s:=s) ha hb;obtain⟨h4,h5,h6⟩:=a6y (d:=d) (s:=(order2 ltInt d a b s).2.2) h2 hc;have k1:=a97 (d':=false) (by kernel_rfl) (by kernel_rfl) f rfl rfl rfl (b2k n cp d rest a b s hrest hn ha hb (by omega));have k2:=a97 (d':=false) (by kernel_rfl) (by kernel_rfl) f rfl rfl rfl (b2k n cp d rest (order2 ltInt d a b s).2.1 c (order2 ltInt d a b s).2.2 hrest hn h2 hc (by omega));have k3:=a97 (d':=false) (by kernel_rfl) (by kernel_rfl) f rfl rfl rfl (b2k n cp d rest (order2 ltInt d a b s).1 (order2 ltInt d (order2 ltInt d a b s).2.1 c (order2 ltInt d a b s).2.2).1 (order2 ltInt d (order2 ltInt d a b s).2.1 c (order2 ltInt d a b s).2.2).2.2 hrest hn h1 h4 (by omega))
 (refine sv Tryz.f181 ?_;simp only[Tryz.f181,gS])
 (repeat first|simp only[ww]|(apply xa;simp+decide only[go_sem,k1,k2,k3];rfl;kernel_rfl))
 (apply fqb;simp+decide only[go_sem,a02 _ f]<;>rfl)
theorem c9a(n:Nat)(cp:Option Nat)(d:Array Int)(rest:List (List AV))(a s:Nat)(hrest:FlatR rest)(hn:n=d.size)(ha:0<a)(hb:a+1<n)(hs:s≤90)(hn1:n≤1000) :
 sem L.env Mf 180 [.slice 0 0 n cp,.int .i64 a,.ptr 1 0 0] [some (.row 1 (rwA d++rest)),some (.row 1 [[.int .i64 s]])]=some (.int .i64 (medianAdjacent ltInt d a s).1,[some (.row 1 (rwA d++rest)),some (.row 1 [[.int .i64 (medianAdjacent ltInt d a s).2]])]):=by
 have f:=a06 (d:=d) hrest;have k1:=a97 (d':=false) (by kernel_rfl) (by kernel_rfl) f rfl rfl rfl (b2r n cp d rest (a-1) a (a+1) s hrest hn (by omega) (by omega) hb hs);have w1:=wI1 (n:=a) (by omega);have w2:IntKind.i64.wrap ((a:Int)-1)=((a-1:Nat):Int):=by rw[w64 (by omega) (by omega)];omega
 (refine sv Tryz.f180 ?_;simp only[Tryz.f180,gS])
 (repeat first|simp only[ww]|(apply xa;simp+decide only[go_sem,w1,w2,k1];rfl;kernel_rfl))
 (apply fqb;simp+decide only[go_sem,a02 _ f]<;>rfl)
theorem e0c(n:Nat)(c:Option Nat)(d:Array Int)(rest:List (List AV))(a b:Nat)(hrest:FlatR rest)(hn:n=d.size)(hab:a<b)(hb:b≤n)(hn1:n≤1000) :
 sem L.env Mf 143 [.slice 0 0 n c,.int .i64 a,.int .i64 b] [some (.row 1 (rwA d++rest))]=some (.tuple [],[some (.row 1 (rwA (reverseRange d a b)++rest))]):=by
 have h0:a2p [] = .tuple []:=rfl;have w1:IntKind.i64.wrap ((b:Int)-1)=((b-1:Nat):Int):=by rw[w64 (by omega) (by omega)];omega
 have hE:∀(i j:Nat) (d:Array Int),reverseLoop i j d=if i<j then reverseLoop (i+1) (j-1) (swp d i j)else d:=λi j d=>by conv=>lhs;unfold reverseLoop
 (refine sv Tryz.f143 ?_;simp only[Tryz.f143,gS])
 (repeat first|simp only[ww]|(apply xa;simp+decide only[go_sem,w1];rfl;kernel_rfl))
 refine a0t kp143_0 (λN F H=>∃(i j:Nat) (e:Array Int),N=j+1-i∧e.size=n∧F=[(0,.slice 0 0 n c),(6,.int .i64 i),(7,.int .i64 j)]∧H=[some (.row 1 (rwA e++rest))]∧reverseLoop i j e=reverseRange d a b∧j<n∧i≤n) (b-1+1-a) ?_ ?_
 ·have f:=a06 (d:=d) hrest;refine⟨_,_,?_,a,b-1,d,rfl,hn.symm,rfl,rfl,rfl,by omega,by omega⟩
  (simp+decide only[go_sem,a03,a00,a05 f,a02 _ f]<;>rfl)<;>rfl
 ·rintro N F H ⟨i,j,e,rfl,he,rfl,rfl,hT,hj,hi⟩
  have f:=a06 (d:=e) hrest;rw[hE]at hT;by_cases hij:i<j
  ·rw[if_pos hij]at hT;have d1:(i:Int)<j:=by omega
   have w2:=wI1 (n:=i) (by omega);have w3:IntKind.i64.wrap ((j:Int)-1)=((j-1:Nat):Int):=by rw[w64 (by omega) (by omega)];omega
   have hl:n≤(rwA e++rest).length:=by rw[List.length_append,a15];omega
   have hls2:∀i x,((rwA e++rest).set i x).length=(rwA e++rest).length:=λi x=>List.length_set;have k0:i<n:=by omega
   have g0:=a0c (d:=e) (rest:=rest) (i:=i) (by omega);have g1:=a0c (d:=e) (rest:=rest) (i:=j) (by omega);have hs:=a1z (d:=e) (rest:=rest) (i:=i) (j:=j) (by omega) (by omega);obtain⟨y,hg3⟩:=a1e (d:=e) (rest:=rest) (i:=i) (j:=j) (x:=e[j]!) (by omega) (by omega);have f2:=a06 (d:=swp e i j) hrest
   (repeat first|simp only[ww]|(apply xa;simp+decide only[go_sem,d1,w2,w3,hl,hls2,k0,hj,g0,g1,hg3,hs];rfl;kernel_rfl))
   refine a0b (j-1+1-(i+1)) (by omega) ⟨_,_,?_,i+1,j-1,_,rfl,by rw[swp_size];exact he,rfl,rfl,hT,by omega,by omega⟩
   (simp+decide only[go_sem,a03,a00,a05 f2,a02 _ f2]<;>rfl)<;>rfl
  ·rw[if_neg hij]at hT;have d1:¬(i:Int)<j:=by omega
   (repeat first|simp only[ww]|(apply xa;simp+decide only[go_sem,d1];rfl;kernel_rfl))
   rw[←hT]
   (apply fqb;simp+decide only[go_sem,h0,a02 _ f]<;>rfl)
def b16:Hint→Int
 |.unknown=>0
 |.increasing=>1
 |.decreasing=>2
theorem c9b{d:Array Int}{a s n:Nat}(ha:0<a)(hb:a+1<n):(medianAdjacent ltInt d a s).1<n∧(medianAdjacent ltInt d a s).2≤s+3:=c6w (by omega) (by omega) hb
theorem d08(n:Nat)(c:Option Nat)(d:Array Int)(rest:List (List AV))(a b:Nat)(hrest:FlatR rest)(hn:n=d.size)(hab:a+12<b)(hb:b≤n)(hn1:n≤1000) :
 sem L.env Mf 142 [.slice 0 0 n c,.int .i64 a,.int .i64 b] [some (.row 1 (rwA d++rest))]=some (.tuple [.int .i64 (choosePivot ltInt d a b).1,.int .i64 (b16 (choosePivot ltInt d a b).2)],[some (.row 1 (rwA d++rest))]):=by
 have f:=a06 (d:=d) hrest;obtain⟨l,hl⟩:∃l,b=a+l:=⟨b-a,by omega⟩
 have hbl:b-a=l:=by omega
 have w1:IntKind.i64.wrap ((b:Int)-a)=(l:Int):=by rw[w64 (by omega) (by omega)];omega
 have w2:IntKind.i64.wrap ((l/4:Nat):Int)=((l/4:Nat):Int):=w64 (by omega) (by omega);have w3:IntKind.i64.wrap (((l/4:Nat):Int)*1)=((l/4*1:Nat):Int):=by rw[w64 (by omega) (by omega)];omega
 have w4:IntKind.i64.wrap (((l/4:Nat):Int)*2)=((l/4*2:Nat):Int):=by rw[w64 (by omega) (by omega)];omega
 have w5:IntKind.i64.wrap (((l/4:Nat):Int)*3)=((l/4*3:Nat):Int):=by rw[w64 (by omega) (by omega)];omega
 have w7:IntKind.i64.wrap ((a:Int)+((l/4*2:Nat):Int))=((a+l/4*2:Nat):Int):=by rw[w64 (by omega) (by omega)];omega
 have w8:IntKind.i64.wrap ((a:Int)+((l/4*3:Nat):Int))=((a+l/4*3:Nat):Int):=by rw[w64 (by omega) (by omega)];omega
 have d1:(8:Int)≤l:=by omega
 obtain⟨i,hi⟩:∃i,i=a+l/4*1:=⟨_,rfl⟩
 obtain⟨j,hj⟩:∃j,j=a+l/4*2:=⟨_,rfl⟩
 obtain⟨k,hk⟩:∃k,k=a+l/4*3:=⟨_,rfl⟩
 have hcp:choosePivot ltInt d a b=((if l≥50 then median ltInt d (medianAdjacent ltInt d i 0).1 (medianAdjacent ltInt d j (medianAdjacent ltInt d i 0).2).1 (medianAdjacent ltInt d k (medianAdjacent ltInt d j (medianAdjacent ltInt d i 0).2).2).1 (medianAdjacent ltInt d k (medianAdjacent ltInt d j (medianAdjacent ltInt d i 0).2).2).2 else median ltInt d i j k 0).1,
  if(if l≥50 then median ltInt d (medianAdjacent ltInt d i 0).1 (medianAdjacent ltInt d j (medianAdjacent ltInt d i 0).2).1 (medianAdjacent ltInt d k (medianAdjacent ltInt d j (medianAdjacent ltInt d i 0).2).2).1 (medianAdjacent ltInt d k (medianAdjacent ltInt d j (medianAdjacent ltInt d i 0).2).2).2 else median ltInt d i j k 0).2=0 then .increasing else if(if l≥50 then median ltInt d (medianAdjacent ltInt d i 0).1 (medianAdjacent ltInt d j (medianAdjacent ltInt d i 0).2).1 (medianAdjacent ltInt d k (medianAdjacent ltInt d j (medianAdjacent ltInt d i 0).2).2).1 (medianAdjacent ltInt d k (medianAdjacent ltInt d j (medianAdjacent ltInt d i 0).2).2).2 else median ltInt d i j k 0).2=12 then .decreasing else .unknown):=by
  unfold choosePivot;simp only[hbl,←hi,←hj,←hk,show l≥8 by omega,if_true]
 have w6:IntKind.i64.wrap ((a:Int)+((l/4:Nat):Int))=(i:Int):=by rw[w64 (by omega) (by omega)];omega
 rw[←hj]at w7;rw[←hk]at w8;have key:∀r:Nat×Nat,r.2≤12→∀G:Prop,(r.2=0→G)→(r.2≠0→r.2=12→G)→(r.2≠0→r.2≠12→G)→G:=by
  intro r _ G h1 h2 h3;by_cases h:r.2=0
  ·exact h1 h
  ·by_cases h':r.2=12
   ·exact h2 h h'
   ·exact h3 h h'
 by_cases c50:l≥50
 ·have d2:(50:Int)≤l:=by omega
  obtain⟨a1,a2⟩:=c9b (d:=d) (a:=i) (s:=0) (n:=n) (by omega) (by omega);obtain⟨b1,b2⟩:=c9b (d:=d) (a:=j) (s:=(medianAdjacent ltInt d i 0).2) (n:=n) (by omega) (by omega);obtain⟨c1,c2⟩:=c9b (d:=d) (a:=k) (s:=(medianAdjacent ltInt d j (medianAdjacent ltInt d i 0).2).2) (n:=n) (by omega) (by omega);have k1:=a97 (d':=false) (by kernel_rfl) (by kernel_rfl) f rfl rfl rfl (c9a n c d rest i 0 hrest hn (by omega) (by omega) (by omega) hn1);have k2:=a97 (d':=false) (by kernel_rfl) (by kernel_rfl) f rfl rfl rfl (c9a n c d rest j (medianAdjacent ltInt d i 0).2 hrest hn (by omega) (by omega) (by omega) hn1);have k3:=a97 (d':=false) (by kernel_rfl) (by kernel_rfl) f rfl rfl rfl (c9a n c d rest k (medianAdjacent ltInt d j (medianAdjacent ltInt d i 0).2).2 hrest hn (by omega) (by omega) (by omega) hn1);have k4:=a97 (d':=false) (by kernel_rfl) (by kernel_rfl) f rfl rfl rfl (b2r n c d rest (medianAdjacent ltInt d i 0).1 (medianAdjacent ltInt d j (medianAdjacent ltInt d i 0).2).1 (medianAdjacent ltInt d k (medianAdjacent ltInt d j (medianAdjacent ltInt d i 0).2).2).1 (medianAdjacent ltInt d k (medianAdjacent ltInt d j (medianAdjacent ltInt d i 0).2).2).2 hrest hn a1 b1 c1 (by omega));simp only[Int.natCast_zero]at k1;rw[hcp];simp only[c50,if_true];generalize(median ltInt d (medianAdjacent ltInt d i 0).1 (medianAdjacent ltInt d j (medianAdjacent ltInt d i 0).2).1 (medianAdjacent ltInt d k (medianAdjacent ltInt d j (medianAdjacent ltInt d i 0).2).2).1 (medianAdjacent ltInt d k (medianAdjacent ltInt d j (medianAdjacent ltInt d i 0).2).2).2)=r at k4⊢;by_cases e0:r.2=0
  ·have e0':(r.2:Int)=0:=by omega
   rw[if_pos e0]
   (refine sv Tryz.f142 ?_;simp only[Tryz.f142,gS])
   (repeat first|simp only[ww]|(apply xa;simp+decide only[go_sem,w1,w2,w3,w4,w5,w6,w7,w8,d1,d2,k1,k2,k3,k4,e0'];rfl;kernel_rfl))
   (apply fqb;simp+decide only[go_sem,a02 _ f,b16]<;>rfl)
  ·have e0':¬(r.2:Int)=0:=by omega
   rw[if_neg e0];by_cases e1:r.2=12
   ·have e1':(r.2:Int)=12:=by omega
    rw[if_pos e1]
    (refine sv Tryz.f142 ?_;simp only[Tryz.f142,gS])
    (repeat first|simp only[ww]|(apply xa;simp+decide only[go_sem,w1,w2,w3,w4,w5,w6,w7,w8,d1,d2,k1,k2,k3,k4,e0',e1'];rfl;kernel_rfl))
    (apply fqb;simp+decide only[go_sem,a02 _ f,b16]<;>rfl)
   ·have e1':¬(r.2:Int)=12:=by omega
    rw[if_neg e1]
    (refine sv Tryz.f142 ?_;simp only[Tryz.f142,gS])
    (repeat first|simp only[ww]|(apply xa;simp+decide only[go_sem,w1,w2,w3,w4,w5,w6,w7,w8,d1,d2,k1,k2,k3,k4,e0',e1'];rfl;kernel_rfl))
    (apply fqb;simp+decide only[go_sem,a02 _ f,b16]<;>rfl)
 ·have d2:¬(50:Int)≤l:=by omega
  have k4:=a97 (d':=false) (by kernel_rfl) (by kernel_rfl) f rfl rfl rfl (b2r n c d rest i j k 0 hrest hn (by omega) (by omega) (by omega) (by omega));simp only[Int.natCast_zero]at k4;rw[hcp];simp only[c50,if_false];generalize(median ltInt d i j k 0)=r at k4⊢;by_cases e0:r.2=0
  ·have e0':(r.2:Int)=0:=by omega
   rw[if_pos e0]
   (refine sv Tryz.f142 ?_;simp only[Tryz.f142,gS])
   (repeat first|simp only[ww]|(apply xa;simp+decide only[go_sem,w1,w2,w3,w4,w5,w6,w7,w8,d1,d2,k4,e0'];rfl;kernel_rfl))
   (apply fqb;simp+decide only[go_sem,a02 _ f,b16]<;>rfl)
  ·have e0':¬(r.2:Int)=0:=by omega
   rw[if_neg e0];by_cases e1:r.2=12
   ·have e1':(r.2:Int)=12:=by omega
    rw[if_pos e1]
    (refine sv Tryz.f142 ?_;simp only[Tryz.f142,gS])
    (repeat first|simp only[ww]|(apply xa;simp+decide only[go_sem,w1,w2,w3,w4,w5,w6,w7,w8,d1,d2,k4,e0',e1'];rfl;kernel_rfl))
    (apply fqb;simp+decide only[go_sem,a02 _ f,b16]<;>rfl)
   ·have e1':¬(r.2:Int)=12:=by omega
    rw[if_neg e1]
    (refine sv Tryz.f142 ?_;simp only[Tryz.f142,gS])
    (repeat first|simp only[ww]|(apply xa;simp+decide only[go_sem,w1,w2,w3,w4,w5,w6,w7,w8,d1,d2,k4,e0',e1'];rfl;kernel_rfl))
    (apply fqb;simp+decide only[go_sem,a02 _ f,b16]<;>rfl)
theorem b8h(a i j:Nat)(d:Array Int):partEqLoop ltInt a i j d=if scanUp (λx=>!ltInt d[a]! x) d j i>scanDown (λx=>ltInt d[a]! x) d (scanUp (λx=>!ltInt d[a]! x) d j i) j then(scanUp (λx=>!ltInt d[a]! x) d j i,d)else
 if scanDown (λx=>ltInt d[a]! x) d (scanUp (λx=>!ltInt d[a]! x) d j i) j-1+1-(scanUp (λx=>!ltInt d[a]! x) d j i+1)<j+1-i then partEqLoop ltInt a (scanUp (λx=>!ltInt d[a]! x) d j i+1) (scanDown (λx=>ltInt d[a]! x) d (scanUp (λx=>!ltInt d[a]! x) d j i) j-1) (swp d (scanUp (λx=>!ltInt d[a]! x) d j i) (scanDown (λx=>ltInt d[a]! x) d (scanUp (λx=>!ltInt d[a]! x) d j i) j))else(scanUp (λx=>!ltInt d[a]! x) d j i,d):=by
 conv=>lhs;unfold partEqLoop
 simp only[dite_eq_ite]
theorem c6f(n:Nat)(c:Option Nat)(d:Array Int)(rest:List (List AV))(a b p:Nat)(hrest:FlatR rest)(hn:n=d.size)(hab:a+1<b)(hb:b≤n)(hn1:n≤1000)(hp:p<n) :
 sem L.env Mf 146 [.slice 0 0 n c,.int .i64 a,.int .i64 b,.int .i64 p] [some (.row 1 (rwA d++rest))]=some (.int .i64 (partitionEqual ltInt d a b p).1,[some (.row 1 (rwA (partitionEqual ltInt d a b p).2++rest))]):=by
 have hls:=λd' H x y=>a4y (d:=d') H x y;have w1:=wI1 (n:=a) (by omega);have w2:IntKind.i64.wrap ((b:Int)-1)=((b-1:Nat):Int):=by rw[w64 (by omega) (by omega)];omega
 have s1:=a0c (d:=d) (rest:=rest) (i:=a) (by omega);have s2:=a0c (d:=d) (rest:=rest) (i:=p) (by omega);have s3:=a1z (d:=d) (rest:=rest) (i:=a) (j:=p) (by omega) (by omega);obtain⟨y,s4⟩:=a1e (d:=d) (rest:=rest) (i:=a) (j:=p) (x:=d[p]!) (by omega) (by omega);have s5:a<n:=by omega
 have s6:p<n:=by omega
 have s7:∀i x,((rwA d++rest).set i x).length=(rwA d++rest).length:=λi x=>List.length_set;have s8:n≤(rwA d++rest).length:=by rw[List.length_append,a15];omega
 have hpe:partitionEqual ltInt d a b p=partEqLoop ltInt a (a+1) (b-1) (swp d a p):=rfl
 (refine sv Tryz.f146 ?_;simp only[Tryz.f146,gS])
 (repeat first|simp only[ww]|(apply xa;simp+decide only[go_sem,w1,w2,s1,s2,s3,s4,s5,s6,s7,s8];rfl;kernel_rfl))
 refine a0t kp146_0 (λN F H=>∃(i j:Nat) (e:Array Int),N=j+2-i∧e.size=n∧F=[(0,.slice 0 0 n c),(1,.int .i64 a),(9,.int .i64 i),(10,.int .i64 j)]∧H=[some (.row 1 (rwA e++rest))]∧a<i∧i≤n∧j<n∧i≤j+2∧partEqLoop ltInt a i j e=partitionEqual ltInt d a b p) (b-1+2-(a+1)) ?_ ?_
 ·refine⟨_,_,?_,a+1,b-1,_,rfl,by rw[Pc.swp_size];exact hn.symm,rfl,rfl,by omega,by omega,by omega,by omega,rfl⟩;have f:=a06 (d:=swp d a p) hrest
  (simp+decide only[go_sem,a03,a00,a05 f,a02 _ f]<;>rfl)<;>rfl
 ·rintro N F H ⟨i,j,e,rfl,he,rfl,rfl,hi1,hi2',hj1,hij',hR⟩
  (repeat first|simp only[ww]|(apply xa;simp+decide only[go_sem];rfl;kernel_rfl))
  have f:=a06 (d:=e) hrest;have hl:n≤(rwA e++rest).length:=by rw[List.length_append,a15];omega
  refine a3i (σ:=Nat) kp146_2 (λu=>[(0,.slice 0 0 n c),(1,.int .i64 a),(9,.int .i64 u),(10,.int .i64 j)]) (λu=>[some (.row 1 (rwA e++rest))]) (λu=>j+2-u) (λu=>i≤u∧u≤j+2∧scanUp (λx=>!ltInt e[a]! x) e j u=scanUp (λx=>!ltInt e[a]! x) e j i) (i) ?_ ⟨by omega,by omega,rfl⟩ ?_
  ·(simp+decide only[go_sem,a03,a00,a05 f,a02 _ f]<;>rfl)<;>rfl
  ·rintro u ⟨u1,u2,hT⟩
   have h3:(u≤j∧ltInt e[a]! e[u]! = false)∨(((u≤j)∧ltInt e[a]! e[u]! = true)∨¬(u≤j)):=by
    by_cases h:u≤j
    ·cases hh:ltInt e[a]! e[u]!<;>simp[h]
    ·exact .inr (.inr h)
   rcases h3 with ⟨h,h1⟩|h3
   ·have d1:(u:Int)≤(j:Nat):=by omega
    have ka:a<n:=by omega
    have kq:u<n:=by omega
    have ga:=a0c (d:=e) (rest:=rest) (i:=a) (by omega);have gq:=a0c (d:=e) (rest:=rest) (i:=u) (by omega);have w:=wI1 (n:=u) (by omega)
    (repeat first|simp only[ww]|(apply xa;simp+decide only[go_sem,d1,ka,kq,hl,ga,gq,hls,h1,w];rfl;kernel_rfl))
    refine b0s (u+1) ?_ (by omega) ⟨by omega,by omega,?_⟩
    ·(simp+decide only[go_sem,a03,a00,a05 f,a02 _ f]<;>rfl)<;>rfl
    ·rw[←hT]
     conv=>rhs;rw[a7f]
     have hg:(decide (u≤j)&&(λx=>!ltInt e[a]! x) e[u]!)=true:=by simp[h,h1]
     rw[if_pos hg]
   ·have hst:(decide (u≤j)&&(λx=>!ltInt e[a]! x) e[u]!)=false:=by
     rcases h3 with ⟨h,h1⟩|h
     ·simp[h1]
     ·simp[h]
    have hu:scanUp (λx=>!ltInt e[a]! x) e j i=u:=by rw[←hT,a7f,hst,if_neg (by simp)]
    have h4:(((u:Int)≤(j:Nat))∧ltInt e[a]! e[u]! = true∧(rwA e++rest)[u]?=some [AV.int .i64 e[u]!]∧u<n∧a<n)∨((¬(u:Int)≤(j:Nat))∧(0:Nat)<1∧(0:Nat)<1∧(0:Nat)<1∧(0:Nat)<1):=by
     rcases h3 with ⟨h,h1⟩|h
     ·exact .inl ⟨by omega,h1,a0c (by omega),by omega,by omega⟩
     ·exact .inr ⟨by omega,by decide,by decide,by decide,by decide⟩
    have ga:=a0c (d:=e) (rest:=rest) (i:=a) (by omega);rcases h4 with ⟨d1,d2,d3,d4,d5⟩|⟨d1,d2,d3,d4,d5⟩
    all_goals
     (repeat first|simp only[ww]|(apply xa;simp+decide only[go_sem,d1,d2,d3,d4,d5,hl,ga,hls];rfl;kernel_rfl))
     have f:=a06 (d:=e) hrest;have hl:n≤(rwA e++rest).length:=by rw[List.length_append,a15];omega
     refine a3i (σ:=Nat) kp146_4 (λv=>[(0,.slice 0 0 n c),(1,.int .i64 a),(9,.int .i64 u),(10,.int .i64 v)]) (λv=>[some (.row 1 (rwA e++rest))]) (λv=>v) (λv=>v≤j∧u≤v+2∧scanDown (λx=>ltInt e[a]! x) e u v=scanDown (λx=>ltInt e[a]! x) e u j) (j) ?_ ⟨by omega,by omega,rfl⟩ ?_
     ·(simp+decide only[go_sem,a03,a00,a05 f,a02 _ f]<;>rfl)<;>rfl
     ·rintro v ⟨v1,v2,hT⟩
      have h3:(u≤v∧ltInt e[a]! e[v]! = true)∨(((u≤v)∧ltInt e[a]! e[v]! = false)∨¬(u≤v)):=by
       by_cases h:u≤v
       ·cases hh:ltInt e[a]! e[v]!<;>simp[h]
       ·exact .inr (.inr h)
      rcases h3 with ⟨h,h1⟩|h3
      ·have d1:((u:Nat):Int)≤v:=by omega
       have ka:a<n:=by omega
       have kq:v<n:=by omega
       have ga:=a0c (d:=e) (rest:=rest) (i:=a) (by omega);have gq:=a0c (d:=e) (rest:=rest) (i:=v) (by omega);have w:IntKind.i64.wrap ((v:Int)-1)=((v-1:Nat):Int):=by rw[w64 (by omega) (by omega)];omega
       (repeat first|simp only[ww]|(apply xa;simp+decide only[go_sem,d1,ka,kq,hl,ga,gq,hls,h1,w];rfl;kernel_rfl))
       refine b0s (v-1) ?_ (by omega) ⟨by omega,by omega,?_⟩
       ·(simp+decide only[go_sem,a03,a00,a05 f,a02 _ f]<;>rfl)<;>rfl
       ·rw[←hT];obtain⟨r,rfl⟩:∃r,v=r+1:=⟨v-1,by omega⟩
        have hg:(decide (u≤(r+1))&&(λx=>ltInt e[a]! x) e[(r+1)]!)=true:=by simp[h,h1]
        rw[a4m,if_pos hg];rfl
      ·have hst:(decide (u≤v)&&(λx=>ltInt e[a]! x) e[v]!)=false:=by
        rcases h3 with ⟨h,h1⟩|h
        ·simp[h1]
        ·simp[h]
       have hv:scanDown (λx=>ltInt e[a]! x) e u j=v:=by
        rw[←hT];cases v with
        |zero=>rfl
        |succ r=>rw[a4m,hst,if_neg (by simp)]
       have h4:((((u:Nat):Int)≤v)∧ltInt e[a]! e[v]! = false∧(rwA e++rest)[v]?=some [AV.int .i64 e[v]!]∧v<n∧a<n)∨((¬((u:Nat):Int)≤v)∧(0:Nat)<1∧(0:Nat)<1∧(0:Nat)<1∧(0:Nat)<1):=by
        rcases h3 with ⟨h,h1⟩|h
        ·exact .inl ⟨by omega,h1,a0c (by omega),by omega,by omega⟩
        ·exact .inr ⟨by omega,by decide,by decide,by decide,by decide⟩
       have ga:=a0c (d:=e) (rest:=rest) (i:=a) (by omega);rcases h4 with ⟨d1,d2,d3,d4,d5⟩|⟨d1,d2,d3,d4,d5⟩
       all_goals
        rw[b8h,hu,hv]at hR;by_cases hij:u>v
        ·have c2:(v:Int)<u:=by omega
         rw[if_pos hij]at hR
         (repeat first|simp only[ww]|(apply xa;simp+decide only[go_sem,d1,d2,d3,d4,d5,hl,ga,hls,c2];rfl;kernel_rfl))
         rw[e2s]
         (repeat first|simp only[ww]|(apply xa;simp+decide only[go_sem];rfl;kernel_rfl))
         rw[←hR]
         (apply fqb;simp+decide only[go_sem,a02 _ f]<;>rfl)
        ·have c2:¬(v:Int)<u:=by omega
         rw[if_neg hij,if_pos (by omega)]at hR;have w3:=wI1 (n:=u) (by omega);have w4:IntKind.i64.wrap ((v:Int)-1)=((v-1:Nat):Int):=by rw[w64 (by omega) (by omega)];omega
         have s1:=a0c (d:=e) (rest:=rest) (i:=u) (by omega);have s2:=a0c (d:=e) (rest:=rest) (i:=v) (by omega);have s3:=a1z (d:=e) (rest:=rest) (i:=u) (j:=v) (by omega) (by omega);obtain⟨y,s4⟩:=a1e (d:=e) (rest:=rest) (i:=u) (j:=v) (x:=e[v]!) (by omega) (by omega);have s5:u<n:=by omega
         have s6:v<n:=by omega
         have s7:∀i x,((rwA e++rest).set i x).length=(rwA e++rest).length:=λi x=>List.length_set;have s8:n≤(rwA e++rest).length:=by rw[List.length_append,a15];omega
         (repeat first|simp only[ww]|(apply xa;simp+decide only[go_sem,d1,d2,d3,d4,d5,hl,ga,hls,c2,w3,w4,s1,s2,s3,s4,s5,s6,s7,s8];rfl;kernel_rfl))
         refine a0b (v-1+2-(u+1)) (by omega) ⟨_,_,?_,u+1,v-1,_,rfl,by rw[Pc.swp_size];exact he,rfl,rfl,by omega,by omega,by omega,by omega,hR⟩;have f2:=a06 (d:=swp e u v) hrest
         (simp+decide only[go_sem,a03,a00,a05 f2,a02 _ f2]<;>rfl)<;>rfl
set_option maxHeartbeats 200000000
set_option maxHeartbeats 2000000
theorem e83(m:Nat)(k:List Nat)(J:Nat→Frm→a04→Prop)(n:Nat)(Q:a6h)(F:Frm)(H:a04):bk 5 (lpJ m k J n (bk 4 Q)) (.exit 4) F H=Q .normal F H:=rfl
theorem b6k(n:Nat)(c:Option Nat)(d:Array Int)(rest:List (List AV))(a b p:Nat)(hrest:FlatR rest)(hn:n=d.size)(hab:a+1<b)(hb:b≤n)(hn1:n≤1000)(hp:p<n) :
 sem L.env Mf 147 [.slice 0 0 n c,.int .i64 a,.int .i64 b,.int .i64 p] [some (.row 1 (rwA d++rest))]=some (.tuple [.int .i64 (partition ltInt d a b p).1,.bool (partition ltInt d a b p).2.1],[some (.row 1 (rwA (partition ltInt d a b p).2.2++rest))]):=by
 have hls:=λd' H x y=>a4y (d:=d') H x y;have w1:=wI1 (n:=a) (by omega);have w2:IntKind.i64.wrap ((b:Int)-1)=((b-1:Nat):Int):=by rw[w64 (by omega) (by omega)];omega
 have s1:=a0c (d:=d) (rest:=rest) (i:=a) (by omega);have s2:=a0c (d:=d) (rest:=rest) (i:=p) (by omega);have s3:=a1z (d:=d) (rest:=rest) (i:=a) (j:=p) (by omega) (by omega);obtain⟨y,s4⟩:=a1e (d:=d) (rest:=rest) (i:=a) (j:=p) (x:=d[p]!) (by omega) (by omega);have s5:a<n:=by omega
 have s6:p<n:=by omega
 have s7:∀i x,((rwA d++rest).set i x).length=(rwA d++rest).length:=λi x=>List.length_set;have s8:n≤(rwA d++rest).length:=by rw[List.length_append,a15];omega
 have hpe:partition ltInt d a b p=if scanUp (λx=>ltInt x (swp d a p)[a]!) (swp d a p) (b-1) (a+1)>scanDown (λx=>!ltInt x (swp d a p)[a]!) (swp d a p) (scanUp (λx=>ltInt x (swp d a p)[a]!) (swp d a p) (b-1) (a+1)) (b-1)then(scanDown (λx=>!ltInt x (swp d a p)[a]!) (swp d a p) (scanUp (λx=>ltInt x (swp d a p)[a]!) (swp d a p) (b-1) (a+1)) (b-1),true,swp (swp d a p) (scanDown (λx=>!ltInt x (swp d a p)[a]!) (swp d a p) (scanUp (λx=>ltInt x (swp d a p)[a]!) (swp d a p) (b-1) (a+1)) (b-1)) a)else
  ((partLoop ltInt a (scanUp (λx=>ltInt x (swp d a p)[a]!) (swp d a p) (b-1) (a+1)+1) (scanDown (λx=>!ltInt x (swp d a p)[a]!) (swp d a p) (scanUp (λx=>ltInt x (swp d a p)[a]!) (swp d a p) (b-1) (a+1)) (b-1)-1) (swp (swp d a p) (scanUp (λx=>ltInt x (swp d a p)[a]!) (swp d a p) (b-1) (a+1)) (scanDown (λx=>!ltInt x (swp d a p)[a]!) (swp d a p) (scanUp (λx=>ltInt x (swp d a p)[a]!) (swp d a p) (b-1) (a+1)) (b-1)))).1,false,swp (partLoop ltInt a (scanUp (λx=>ltInt x (swp d a p)[a]!) (swp d a p) (b-1) (a+1)+1) (scanDown (λx=>!ltInt x (swp d a p)[a]!) (swp d a p) (scanUp (λx=>ltInt x (swp d a p)[a]!) (swp d a p) (b-1) (a+1)) (b-1)-1) (swp (swp d a p) (scanUp (λx=>ltInt x (swp d a p)[a]!) (swp d a p) (b-1) (a+1)) (scanDown (λx=>!ltInt x (swp d a p)[a]!) (swp d a p) (scanUp (λx=>ltInt x (swp d a p)[a]!) (swp d a p) (b-1) (a+1)) (b-1)))).2 (partLoop ltInt a (scanUp (λx=>ltInt x (swp d a p)[a]!) (swp d a p) (b-1) (a+1)+1) (scanDown (λx=>!ltInt x (swp d a p)[a]!) (swp d a p) (scanUp (λx=>ltInt x (swp d a p)[a]!) (swp d a p) (b-1) (a+1)) (b-1)-1) (swp (swp d a p) (scanUp (λx=>ltInt x (swp d a p)[a]!) (swp d a p) (b-1) (a+1)) (scanDown (λx=>!ltInt x (swp d a p)[a]!) (swp d a p) (scanUp (λx=>ltInt x (swp d a p)[a]!) (swp d a p) (b-1) (a+1)) (b-1)))).1 a):=rfl
 have he:(swp d a p).size=n:=by rw[Pc.swp_size];exact hn.symm
 (refine sv Tryz.f147 ?_;simp only[Tryz.f147,gS])
 (repeat first|simp only[ww]|(apply xa;simp+decide only[go_sem,w1,w2,s1,s2,s3,s4,s5,s6,s7,s8];rfl;kernel_rfl))
 generalize swp d a p=e at *;clear s1 s2 s3 s4 s5 s6 s7 s8;have f:=a06 (d:=e) hrest;have hl:n≤(rwA e++rest).length:=by rw[List.length_append,a15];omega
 refine a3i (σ:=Nat) kp147_0 (λu=>[(0,.slice 0 0 n c),(1,.int .i64 a),(10,.int .i64 (u:Nat)),(11,.int .i64 ((b-1):Nat))]) (λu=>[some (.row 1 (rwA e++rest))]) (λu=>(b-1)+2-u) (λu=>(a+1)≤u∧u≤(b-1)+2∧scanUp (λx=>ltInt x e[a]!) e (b-1) u=scanUp (λx=>ltInt x e[a]!) e (b-1) (a+1)) ((a+1)) ?_ ⟨by omega,by omega,rfl⟩ ?_
 ·(simp+decide only[go_sem,a03,a00,a05 f,a02 _ f]<;>rfl)<;>rfl
 ·rintro u ⟨u1,u2,hT⟩
  have h3:(u≤(b-1)∧ltInt e[u]! e[a]! = true)∨(((u≤(b-1))∧ltInt e[u]! e[a]! = false)∨¬(u≤(b-1))):=by
   by_cases h:u≤(b-1)
   ·cases hh:ltInt e[u]! e[a]!<;>simp[h]
   ·exact .inr (.inr h)
  rcases h3 with ⟨h,h1⟩|h3
  ·have d1:(u:Int)≤((b-1):Nat):=by omega
   have ka:a<n:=by omega
   have kq:u<n:=by omega
   have ga:=a0c (d:=e) (rest:=rest) (i:=a) (by omega);have gq:=a0c (d:=e) (rest:=rest) (i:=u) (by omega);have w:=wI1 (n:=u) (by omega)
   (repeat first|simp only[ww]|(apply xa;simp+decide only[go_sem,d1,ka,kq,hl,ga,gq,hls,h1,w];rfl;kernel_rfl))
   refine b0s (u+1) ?_ (by omega) ⟨by omega,by omega,?_⟩
   ·(simp+decide only[go_sem,a03,a00,a05 f,a02 _ f]<;>rfl)<;>rfl
   ·rw[←hT]
    conv=>rhs;rw[a7f]
    have hg:(decide (u≤(b-1))&&(λx=>ltInt x e[a]!) e[u]!)=true:=by simp[h,h1]
    rw[if_pos hg]
  ·have hst:(decide (u≤(b-1))&&(λx=>ltInt x e[a]!) e[u]!)=false:=by
    rcases h3 with ⟨h,h1⟩|h
    ·simp[h1]
    ·simp[h]
   have hu:scanUp (λx=>ltInt x e[a]!) e (b-1) (a+1)=u:=by rw[←hT,a7f,hst,if_neg (by simp)]
   have h4:(((u:Int)≤((b-1):Nat))∧ltInt e[u]! e[a]! = false∧(rwA e++rest)[u]?=some [AV.int .i64 e[u]!]∧u<n∧a<n)∨((¬(u:Int)≤((b-1):Nat))∧(0:Nat)<1∧(0:Nat)<1∧(0:Nat)<1∧(0:Nat)<1):=by
    rcases h3 with ⟨h,h1⟩|h
    ·exact .inl ⟨by omega,h1,a0c (by omega),by omega,by omega⟩
    ·exact .inr ⟨by omega,by decide,by decide,by decide,by decide⟩
   have ga:=a0c (d:=e) (rest:=rest) (i:=a) (by omega);rcases h4 with ⟨d1,d2,d3,d4,d5⟩|⟨d1,d2,d3,d4,d5⟩
   all_goals
    (repeat first|simp only[ww]|(apply xa;simp+decide only[go_sem,d1,d2,d3,d4,d5,hl,ga,hls];rfl;kernel_rfl))
    have f:=a06 (d:=e) hrest;have hl:n≤(rwA e++rest).length:=by rw[List.length_append,a15];omega
    refine a3i (σ:=Nat) kp147_2 (λv=>[(0,.slice 0 0 n c),(1,.int .i64 a),(10,.int .i64 (u:Nat)),(11,.int .i64 (v:Nat))]) (λv=>[some (.row 1 (rwA e++rest))]) (λv=>v) (λv=>v≤(b-1)∧u≤v+2∧scanDown (λx=>!ltInt x e[a]!) e u v=scanDown (λx=>!ltInt x e[a]!) e u (b-1)) ((b-1)) ?_ ⟨by omega,by omega,rfl⟩ ?_
    ·(simp+decide only[go_sem,a03,a00,a05 f,a02 _ f]<;>rfl)<;>rfl
    ·rintro v ⟨v1,v2,hT⟩
     have h3:(u≤v∧ltInt e[v]! e[a]! = false)∨(((u≤v)∧ltInt e[v]! e[a]! = true)∨¬(u≤v)):=by
      by_cases h:u≤v
      ·cases hh:ltInt e[v]! e[a]!<;>simp[h]
      ·exact .inr (.inr h)
     rcases h3 with ⟨h,h1⟩|h3
     ·have d1:((u:Nat):Int)≤v:=by omega
      have ka:a<n:=by omega
      have kq:v<n:=by omega
      have ga:=a0c (d:=e) (rest:=rest) (i:=a) (by omega);have gq:=a0c (d:=e) (rest:=rest) (i:=v) (by omega);have w:IntKind.i64.wrap ((v:Int)-1)=((v-1:Nat):Int):=by rw[w64 (by omega) (by omega)];omega
      (repeat first|simp only[ww]|(apply xa;simp+decide only[go_sem,d1,ka,kq,hl,ga,gq,hls,h1,w];rfl;kernel_rfl))
      refine b0s (v-1) ?_ (by omega) ⟨by omega,by omega,?_⟩
      ·(simp+decide only[go_sem,a03,a00,a05 f,a02 _ f]<;>rfl)<;>rfl
      ·rw[←hT];obtain⟨r,rfl⟩:∃r,v=r+1:=⟨v-1,by omega⟩
       have hg:(decide (u≤(r+1))&&(λx=>!ltInt x e[a]!) e[(r+1)]!)=true:=by simp[h,h1]
       rw[a4m,if_pos hg];rfl
     ·have hst:(decide (u≤v)&&(λx=>!ltInt x e[a]!) e[v]!)=false:=by
       rcases h3 with ⟨h,h1⟩|h
       ·simp[h1]
       ·simp[h]
      have hv:scanDown (λx=>!ltInt x e[a]!) e u (b-1)=v:=by
       rw[←hT];cases v with
       |zero=>rfl
       |succ r=>rw[a4m,hst,if_neg (by simp)]
      have h4:((((u:Nat):Int)≤v)∧ltInt e[v]! e[a]! = true∧(rwA e++rest)[v]?=some [AV.int .i64 e[v]!]∧v<n∧a<n)∨((¬((u:Nat):Int)≤v)∧(0:Nat)<1∧(0:Nat)<1∧(0:Nat)<1∧(0:Nat)<1):=by
       rcases h3 with ⟨h,h1⟩|h
       ·exact .inl ⟨by omega,h1,a0c (by omega),by omega,by omega⟩
       ·exact .inr ⟨by omega,by decide,by decide,by decide,by decide⟩
      have ga:=a0c (d:=e) (rest:=rest) (i:=a) (by omega);rcases h4 with ⟨d1,d2,d3,d4,d5⟩|⟨d1,d2,d3,d4,d5⟩
      all_goals
       rw[hpe,hu,hv];by_cases hij:u>v
       ·have c2:(v:Int)<u:=by omega
        rw[if_pos hij];have s1:=a0c (d:=e) (rest:=rest) (i:=v) (by omega);have s2:=a0c (d:=e) (rest:=rest) (i:=a) (by omega);have s3:=a1z (d:=e) (rest:=rest) (i:=v) (j:=a) (by omega) (by omega);obtain⟨y,s4⟩:=a1e (d:=e) (rest:=rest) (i:=v) (j:=a) (x:=e[a]!) (by omega) (by omega);have s5:v<n:=by omega
        have s6:a<n:=by omega
        have s7:∀i x,((rwA e++rest).set i x).length=(rwA e++rest).length:=λi x=>List.length_set;have s8:n≤(rwA e++rest).length:=by rw[List.length_append,a15];omega
        (repeat first|simp only[ww]|(apply xa;simp+decide only[go_sem,d1,d2,d3,d4,d5,hl,ga,hls,c2,s1,s2,s3,s4,s5,s6,s7,s8];rfl;kernel_rfl))
        have f2:=a06 (d:=swp e v a) hrest
        (apply fqb;simp+decide only[go_sem,a02 _ f2]<;>rfl)
       ·have c2:¬(v:Int)<u:=by omega
        rw[if_neg hij];have w3:=wI1 (n:=u) (by omega);have w4:IntKind.i64.wrap ((v:Int)-1)=((v-1:Nat):Int):=by rw[w64 (by omega) (by omega)];omega
        have s1:=a0c (d:=e) (rest:=rest) (i:=u) (by omega);have s2:=a0c (d:=e) (rest:=rest) (i:=v) (by omega);have s3:=a1z (d:=e) (rest:=rest) (i:=u) (j:=v) (by omega) (by omega);obtain⟨y,s4⟩:=a1e (d:=e) (rest:=rest) (i:=u) (j:=v) (x:=e[v]!) (by omega) (by omega);have s5:u<n:=by omega
        have s6:v<n:=by omega
        have s7:∀i x,((rwA e++rest).set i x).length=(rwA e++rest).length:=λi x=>List.length_set;have s8:n≤(rwA e++rest).length:=by rw[List.length_append,a15];omega
        (repeat first|simp only[ww]|(apply xa;simp+decide only[go_sem,d1,d2,d3,d4,d5,hl,ga,hls,c2,w3,w4,s1,s2,s3,s4,s5,s6,s7,s8];rfl;kernel_rfl))
        refine a0t kp147_4 (λN F H=>∃(i j:Nat) (x:Array Int),N=j+2-i∧x.size=n∧F=[(0,.slice 0 0 n c),(1,.int .i64 a),(10,.int .i64 i),(11,.int .i64 j)]∧H=[some (.row 1 (rwA x++rest))]∧a<i∧i≤n∧j<n∧i≤j+2∧partLoop ltInt a i j x=partLoop ltInt a (u+1) (v-1) (swp e u v)) (v-1+2-(u+1)) ?_ ?_
        ·refine⟨_,_,?_,u+1,v-1,_,rfl,by rw[Pc.swp_size];exact he,rfl,rfl,by omega,by omega,by omega,by omega,rfl⟩;have f2:=a06 (d:=swp e u v) hrest
         (simp+decide only[go_sem,a03,a00,a05 f2,a02 _ f2]<;>rfl)<;>rfl
        ·generalize swp e u v=z;clear hpe hu hv;generalize u+1=u0;generalize v-1=v0
         rintro N F H ⟨i,j,e,rfl,he,rfl,rfl,hi1,hi2',hj1,hij',hR⟩
         (repeat first|simp only[ww]|(apply xa;simp+decide only[go_sem];rfl;kernel_rfl))
         have f:=a06 (d:=e) hrest;have hl:n≤(rwA e++rest).length:=by rw[List.length_append,a15];omega
         refine a3i (σ:=Nat) kp147_6 (λu=>[(0,.slice 0 0 n c),(1,.int .i64 a),(10,.int .i64 (u:Nat)),(11,.int .i64 (j:Nat))]) (λu=>[some (.row 1 (rwA e++rest))]) (λu=>j+2-u) (λu=>i≤u∧u≤j+2∧scanUp (λx=>ltInt x e[a]!) e j u=scanUp (λx=>ltInt x e[a]!) e j i) (i) ?_ ⟨by omega,by omega,rfl⟩ ?_
         ·(simp+decide only[go_sem,a03,a00,a05 f,a02 _ f]<;>rfl)<;>rfl
         ·rintro u ⟨u1,u2,hT⟩
          have h3:(u≤j∧ltInt e[u]! e[a]! = true)∨(((u≤j)∧ltInt e[u]! e[a]! = false)∨¬(u≤j)):=by
           by_cases h:u≤j
           ·cases hh:ltInt e[u]! e[a]!<;>simp[h]
           ·exact .inr (.inr h)
          rcases h3 with ⟨h,h1⟩|h3
          ·have d1:(u:Int)≤(j:Nat):=by omega
           have ka:a<n:=by omega
           have kq:u<n:=by omega
           have ga:=a0c (d:=e) (rest:=rest) (i:=a) (by omega);have gq:=a0c (d:=e) (rest:=rest) (i:=u) (by omega);have w:=wI1 (n:=u) (by omega)
           (repeat first|simp only[ww]|(apply xa;simp+decide only[go_sem,d1,ka,kq,hl,ga,gq,hls,h1,w];rfl;kernel_rfl))
           refine b0s (u+1) ?_ (by omega) ⟨by omega,by omega,?_⟩
           ·(simp+decide only[go_sem,a03,a00,a05 f,a02 _ f]<;>rfl)<;>rfl
           ·rw[←hT]
            conv=>rhs;rw[a7f]
            have hg:(decide (u≤j)&&(λx=>ltInt x e[a]!) e[u]!)=true:=by simp[h,h1]
            rw[if_pos hg]
          ·have hst:(decide (u≤j)&&(λx=>ltInt x e[a]!) e[u]!)=false:=by
            rcases h3 with ⟨h,h1⟩|h
            ·simp[h1]
            ·simp[h]
           have hu:scanUp (λx=>ltInt x e[a]!) e j i=u:=by rw[←hT,a7f,hst,if_neg (by simp)]
           have h4:(((u:Int)≤(j:Nat))∧ltInt e[u]! e[a]! = false∧(rwA e++rest)[u]?=some [AV.int .i64 e[u]!]∧u<n∧a<n)∨((¬(u:Int)≤(j:Nat))∧(0:Nat)<1∧(0:Nat)<1∧(0:Nat)<1∧(0:Nat)<1):=by
            rcases h3 with ⟨h,h1⟩|h
            ·exact .inl ⟨by omega,h1,a0c (by omega),by omega,by omega⟩
            ·exact .inr ⟨by omega,by decide,by decide,by decide,by decide⟩
           have ga:=a0c (d:=e) (rest:=rest) (i:=a) (by omega);rcases h4 with ⟨d1,d2,d3,d4,d5⟩|⟨d1,d2,d3,d4,d5⟩
           all_goals
            (repeat first|simp only[ww]|(apply xa;simp+decide only[go_sem,d1,d2,d3,d4,d5,hl,ga,hls];rfl;kernel_rfl))
            have f:=a06 (d:=e) hrest;have hl:n≤(rwA e++rest).length:=by rw[List.length_append,a15];omega
            refine a3i (σ:=Nat) kp147_8 (λv=>[(0,.slice 0 0 n c),(1,.int .i64 a),(10,.int .i64 (u:Nat)),(11,.int .i64 (v:Nat))]) (λv=>[some (.row 1 (rwA e++rest))]) (λv=>v) (λv=>v≤j∧u≤v+2∧scanDown (λx=>!ltInt x e[a]!) e u v=scanDown (λx=>!ltInt x e[a]!) e u j) (j) ?_ ⟨by omega,by omega,rfl⟩ ?_
            ·(simp+decide only[go_sem,a03,a00,a05 f,a02 _ f]<;>rfl)<;>rfl
            ·rintro v ⟨v1,v2,hT⟩
             have h3:(u≤v∧ltInt e[v]! e[a]! = false)∨(((u≤v)∧ltInt e[v]! e[a]! = true)∨¬(u≤v)):=by
              by_cases h:u≤v
              ·cases hh:ltInt e[v]! e[a]!<;>simp[h]
              ·exact .inr (.inr h)
             rcases h3 with ⟨h,h1⟩|h3
             ·have d1:((u:Nat):Int)≤v:=by omega
              have ka:a<n:=by omega
              have kq:v<n:=by omega
              have ga:=a0c (d:=e) (rest:=rest) (i:=a) (by omega);have gq:=a0c (d:=e) (rest:=rest) (i:=v) (by omega);have w:IntKind.i64.wrap ((v:Int)-1)=((v-1:Nat):Int):=by rw[w64 (by omega) (by omega)];omega
              (repeat first|simp only[ww]|(apply xa;simp+decide only[go_sem,d1,ka,kq,hl,ga,gq,hls,h1,w];rfl;kernel_rfl))
              refine b0s (v-1) ?_ (by omega) ⟨by omega,by omega,?_⟩
              ·(simp+decide only[go_sem,a03,a00,a05 f,a02 _ f]<;>rfl)<;>rfl
              ·rw[←hT];obtain⟨r,rfl⟩:∃r,v=r+1:=⟨v-1,by omega⟩
               have hg:(decide (u≤(r+1))&&(λx=>!ltInt x e[a]!) e[(r+1)]!)=true:=by simp[h,h1]
               rw[a4m,if_pos hg];rfl
             ·have hst:(decide (u≤v)&&(λx=>!ltInt x e[a]!) e[v]!)=false:=by
               rcases h3 with ⟨h,h1⟩|h
               ·simp[h1]
               ·simp[h]
              have hv:scanDown (λx=>!ltInt x e[a]!) e u j=v:=by
               rw[←hT];cases v with
               |zero=>rfl
               |succ r=>rw[a4m,hst,if_neg (by simp)]
              have h4:((((u:Nat):Int)≤v)∧ltInt e[v]! e[a]! = true∧(rwA e++rest)[v]?=some [AV.int .i64 e[v]!]∧v<n∧a<n)∨((¬((u:Nat):Int)≤v)∧(0:Nat)<1∧(0:Nat)<1∧(0:Nat)<1∧(0:Nat)<1):=by
               rcases h3 with ⟨h,h1⟩|h
               ·exact .inl ⟨by omega,h1,a0c (by omega),by omega,by omega⟩
               ·exact .inr ⟨by omega,by decide,by decide,by decide,by decide⟩
              have ga:=a0c (d:=e) (rest:=rest) (i:=a) (by omega);rcases h4 with ⟨d1,d2,d3,d4,d5⟩|⟨d1,d2,d3,d4,d5⟩
              all_goals
               rw[c4b,hu,hv]at hR;by_cases hij:u>v
               ·have c2:(v:Int)<u:=by omega
                rw[if_pos hij]at hR;have s1:=a0c (d:=e) (rest:=rest) (i:=v) (by omega);have s2:=a0c (d:=e) (rest:=rest) (i:=a) (by omega);have s3:=a1z (d:=e) (rest:=rest) (i:=v) (j:=a) (by omega) (by omega);obtain⟨y,s4⟩:=a1e (d:=e) (rest:=rest) (i:=v) (j:=a) (x:=e[a]!) (by omega) (by omega);have s5:v<n:=by omega
                have s6:a<n:=by omega
                have s7:∀i x,((rwA e++rest).set i x).length=(rwA e++rest).length:=λi x=>List.length_set;have s8:n≤(rwA e++rest).length:=by rw[List.length_append,a15];omega
                (repeat first|simp only[ww]|(apply xa;simp+decide only[go_sem,d1,d2,d3,d4,d5,hl,ga,hls,c2];rfl;kernel_rfl))
                rw[e83]
                (repeat first|simp only[ww]|(apply xa;simp+decide only[go_sem,s1,s2,s3,s4,s5,s6,s7,s8];rfl;kernel_rfl))
                rw[←hR];have f2:=a06 (d:=swp e v a) hrest
                (apply fqb;simp+decide only[go_sem,a02 _ f2]<;>rfl)
               ·have c2:¬(v:Int)<u:=by omega
                rw[if_neg hij,if_pos (by omega)]at hR;have w3:=wI1 (n:=u) (by omega);have w4:IntKind.i64.wrap ((v:Int)-1)=((v-1:Nat):Int):=by rw[w64 (by omega) (by omega)];omega
                have s1:=a0c (d:=e) (rest:=rest) (i:=u) (by omega);have s2:=a0c (d:=e) (rest:=rest) (i:=v) (by omega);have s3:=a1z (d:=e) (rest:=rest) (i:=u) (j:=v) (by omega) (by omega);obtain⟨y,s4⟩:=a1e (d:=e) (rest:=rest) (i:=u) (j:=v) (x:=e[v]!) (by omega) (by omega);have s5:u<n:=by omega
                have s6:v<n:=by omega
                have s7:∀i x,((rwA e++rest).set i x).length=(rwA e++rest).length:=λi x=>List.length_set;have s8:n≤(rwA e++rest).length:=by rw[List.length_append,a15];omega
                (repeat first|simp only[ww]|(apply xa;simp+decide only[go_sem,d1,d2,d3,d4,d5,hl,ga,hls,c2,w3,w4,s1,s2,s3,s4,s5,s6,s7,s8];rfl;kernel_rfl))
                refine a0b (v-1+2-(u+1)) (by omega) ⟨_,_,?_,u+1,v-1,_,rfl,by rw[Pc.swp_size];exact he,rfl,rfl,by omega,by omega,by omega,by omega,hR⟩;have f2:=a06 (d:=swp e u v) hrest
                (simp+decide only[go_sem,a03,a00,a05 f2,a02 _ f2]<;>rfl)<;>rfl
theorem a6s(d:Array Int)(b i:Nat):scanSorted ltInt d b i=if(decide (i<b) && !ltInt d[i]! d[i-1]!)=true then scanSorted ltInt d b (i+1)else i:=by conv=>lhs;unfold scanSorted
theorem a5j(b j:Nat)(d:Array Int):shiftUp ltInt b j d=if j<b then(if !ltInt d[j]! d[j-1]! then d else shiftUp ltInt b (j+1) (swp d j (j-1)))else d:=by conv=>lhs;unfold shiftUp
theorem e2r{x:Cx}{y:Code}(m:Nat)(k:List Nat)(J:Nat→Frm→a04→Prop)(n:Nat)(Q:a6h)(F:Frm)(H:a04):bk 5 (sq x y (lpJ m k J n (bk 4 Q))) (.exit 4) F H=Q .normal F H:=rfl
theorem d5m(n:Nat)(c:Option Nat)(d:Array Int)(rest:List (List AV))(a b:Nat)(hrest:FlatR rest)(hn:n=d.size)(hab:a+1<b)(hb:b≤n)(hn1:n≤1000) :
 sem L.env Mf 144 [.slice 0 0 n c,.int .i64 a,.int .i64 b] [some (.row 1 (rwA d++rest))]=some (.bool (partialInsertionSort ltInt d a b).2,[some (.row 1 (rwA (partialInsertionSort ltInt d a b).1++rest))]):=by
 have hls:=λd' H x y=>a4y (d:=d') H x y;have w1:=wI1 (n:=a) (by omega)
 (refine sv Tryz.f144 ?_;simp only[Tryz.f144,gS])
 (repeat first|simp only[ww]|(apply xa;simp+decide only[go_sem,w1];rfl;kernel_rfl))
 refine a0t kp144_0 (λN F H=>∃(s i:Nat) (e:Array Int),N=s∧s≤5∧e.size=n∧F=[(0,.slice 0 0 n c),(1,.int .i64 a),(2,.int .i64 b),(7,.int .i64 i),(8,.int .i64 ((5-s:Nat):Int))]∧H=[some (.row 1 (rwA e++rest))]∧a<i∧i≤b∧partialIns ltInt a b s i e=partialInsertionSort ltInt d a b) 5 ?_ ?_
 ·have f:=a06 (d:=d) hrest;refine⟨_,_,?_,5,a+1,d,rfl,by omega,hn.symm,rfl,rfl,by omega,by omega,rfl⟩
  (simp+decide only[go_sem,a03,a00,a05 f,a02 _ f]<;>rfl)<;>rfl
 ·rintro N F H ⟨s,i,e,rfl,hs5,he,rfl,rfl,hi1,hi2,hR⟩
  have f:=a06 (d:=e) hrest;cases N with
  |zero=>
   have d1:¬((5-0:Nat):Int)<5:=by omega
   have hR:(e,false)=partialInsertionSort ltInt d a b:=hR;rw[←hR]
   (repeat first|simp only[ww]|(apply xa;simp+decide only[go_sem,d1];rfl;kernel_rfl))
   (apply fqb;simp+decide only[go_sem,a02 _ f]<;>rfl)
  |succ s=>
   have d1:((5-(s+1):Nat):Int)<5:=by omega
   have w8:IntKind.i64.wrap (((5-(s+1):Nat):Int)+1)=((5-s:Nat):Int):=by rw[w64 (by omega) (by omega)];omega
   (repeat first|simp only[ww]|(apply xa;simp+decide only[go_sem,d1];rfl;kernel_rfl))
   have hl:n≤(rwA e++rest).length:=by rw[List.length_append,a15];omega
   refine a3i (σ:=Nat) kp144_2 (λu=>[(0,.slice 0 0 n c),(1,.int .i64 a),(2,.int .i64 b),(7,.int .i64 (u:Nat)),(8,.int .i64 ((5-(s+1):Nat):Int))]) (λq=>[some (.row 1 (rwA e++rest))]) (λq=>b-q) (λq=>i≤q∧q≤b∧scanSorted ltInt e b q=scanSorted ltInt e b i) i ?_ ⟨by omega,by omega,rfl⟩ ?_
   ·(simp+decide only[go_sem,a03,a00,a05 f,a02 _ f]<;>rfl)<;>rfl
   ·rintro u ⟨u1,u2,hT⟩
    have wu:=wI1 (n:=u) (by omega);have wu1:IntKind.i64.wrap ((u:Int)-1)=((u-1:Nat):Int):=by rw[w64 (by omega) (by omega)];omega
    by_cases hub:u<b
    ·have d2:(u:Int)<b:=by omega
     have ku:u<n:=by omega
     have kv:u-1<n:=by omega
     have gu:=a0c (d:=e) (rest:=rest) (i:=u) (by omega);have gv:=a0c (d:=e) (rest:=rest) (i:=u-1) (by omega);cases hlt:ltInt e[u]! e[u-1]! with
     |false=>
      (repeat first|simp only[ww]|(apply xa;simp+decide only[go_sem,d2,ku,kv,hl,gu,gv,hls,hlt,wu,wu1];rfl;kernel_rfl))
      refine b0s (u+1) ?_ (by omega) ⟨by omega,by omega,?_⟩
      ·(simp+decide only[go_sem,a03,a00,a05 f,a02 _ f]<;>rfl)<;>rfl
      ·rw[←hT,a6s e b u,if_pos (by simp[hub,hlt])]
     |true=>
      have hu:scanSorted ltInt e b i=u:=by rw[←hT,a6s,if_neg (by simp[hlt])]
      have c1:¬((u:Int)=b):=by omega
      have wb:IntKind.i64.wrap ((b:Int)-a)=((b-a:Nat):Int):=by rw[w64 (by omega) (by omega)];omega
      have wua:IntKind.i64.wrap ((u:Int)-a)=((u-a:Nat):Int):=by rw[w64 (by omega) (by omega)];omega
      have wb2:IntKind.i64.wrap ((b:Int)-u)=((b-u:Nat):Int):=by rw[w64 (by omega) (by omega)];omega
      unfold partialIns at hR;simp only[hu]at hR;rw[if_neg (by omega)]at hR;by_cases h50:b-a<50
      ·have c2:((b-a:Nat):Int)<50:=by omega
       rw[if_pos h50]at hR;rw[←hR]
       (repeat first|simp only[ww]|(apply xa;simp+decide only[go_sem,d2,ku,kv,hl,gu,gv,hls,hlt,wu1,c1,wb,c2];rfl;kernel_rfl))
       (apply fqb;simp+decide only[go_sem,a02 _ f]<;>rfl)
      ·have c2:¬((b-a:Nat):Int)<50:=by omega
       rw[if_neg h50]at hR;have s1:=a0c (d:=e) (rest:=rest) (i:=u) (by omega);have s2:=a0c (d:=e) (rest:=rest) (i:=(u-1)) (by omega);have s3:=a1z (d:=e) (rest:=rest) (i:=u) (j:=(u-1)) (by omega) (by omega);obtain⟨y,s4⟩:=a1e (d:=e) (rest:=rest) (i:=u) (j:=(u-1)) (x:=e[(u-1)]!) (by omega) (by omega);have s5:u<n:=by omega
       have s6:(u-1)<n:=by omega
       have s7:∀i x,((rwA e++rest).set i x).length=(rwA e++rest).length:=λi x=>List.length_set;have s8:n≤(rwA e++rest).length:=by rw[List.length_append,a15];omega
       by_cases h2:u-a≥2
       ·have c3:(2:Int)≤((u-a:Nat):Int):=by omega
        rw[if_pos h2]at hR
        (repeat first|simp only[ww]|(apply xa;simp+decide only[go_sem,d2,hl,hls,hlt,wu1,c1,wb,c2,wua,c3,s1,s2,s3,s4,s5,s6,s7,s8];rfl;kernel_rfl))
        have hz:(swp e u (u-1)).size=n:=by rw[Pc.swp_size];exact he
        have f1:=a06 (d:=swp e u (u-1)) hrest;refine a0t kp144_4 (λN F H=>∃(k:Nat) (g:Array Int),N=k∧g.size=n∧F=[(0,.slice 0 0 n c),(1,.int .i64 a),(2,.int .i64 b),(7,.int .i64 (u:Nat)),(8,.int .i64 ((5-(s+1):Nat):Int)),(9,.int .i64 (k:Nat))]∧H=[some (.row 1 (rwA g++rest))]∧k<n∧shiftDown ltInt k g=shiftDown ltInt (u-1) (swp e u (u-1))) (u-1) ?_ ?_
        ·refine⟨_,_,?_,u-1,swp e u (u-1),rfl,hz,rfl,rfl,by omega,rfl⟩
         (simp+decide only[go_sem,a03,a00,a05 f1,a02 _ f1]<;>rfl)<;>rfl
        ·clear f1 hz s1 s2 s3 s4 s5 s6 s7 s8;generalize swp e u (u-1)=z at hR
         rintro N F H ⟨k,m,rfl,hm,rfl,rfl,hk1,hS⟩
         have f3:=a06 (d:=m) hrest;cases N with
         |zero=>
          have d3:¬(1:Int)≤((0:Nat):Int):=by omega
          have hS:m=shiftDown ltInt (u-1) z:=hS;rw[←hS]at hR;by_cases h6:b-u≥2
          ·have c6:(2:Int)≤((b-u:Nat):Int):=by omega
           have hR6:partialIns ltInt a b s u (shiftUp ltInt b (u+1) m)=partialInsertionSort ltInt d a b:=by rw[←hR,if_pos h6]
           (repeat first|simp only[ww]|(apply xa;simp+decide only[go_sem,d3,wb2,c6,wu];rfl;kernel_rfl))
           refine a0t kp144_6 (λN F H=>∃(k:Nat) (g:Array Int),N=b+1-k∧g.size=n∧F=[(0,.slice 0 0 n c),(1,.int .i64 a),(2,.int .i64 b),(7,.int .i64 (u:Nat)),(8,.int .i64 ((5-(s+1):Nat):Int)),(10,.int .i64 (k:Nat))]∧H=[some (.row 1 (rwA g++rest))]∧u<k∧k≤b∧shiftUp ltInt b k g=shiftUp ltInt b (u+1) m) (b+1-(u+1)) ?_ ?_
           ·have f2:=a06 (d:=m) hrest;refine⟨_,_,?_,u+1,m,rfl,hm,rfl,rfl,by omega,by omega,rfl⟩
            (simp+decide only[go_sem,a03,a00,a05 f2,a02 _ f2]<;>rfl)<;>rfl
           ·rintro N F H ⟨k,g,rfl,hg,rfl,rfl,hk1,hk2,hS⟩
            have f3:=a06 (d:=g) hrest;have wk1:=wI1 (n:=k) (by omega);have wk2:IntKind.i64.wrap ((k:Int)-1)=((k-1:Nat):Int):=by rw[w64 (by omega) (by omega)];omega
            by_cases hkb:k<b
            ·have d1:(k:Int)<b:=by omega
             have s1:=a0c (d:=g) (rest:=rest) (i:=k) (by omega);have s2:=a0c (d:=g) (rest:=rest) (i:=(k-1)) (by omega);have s3:=a1z (d:=g) (rest:=rest) (i:=k) (j:=(k-1)) (by omega) (by omega);obtain⟨y,s4⟩:=a1e (d:=g) (rest:=rest) (i:=k) (j:=(k-1)) (x:=g[(k-1)]!) (by omega) (by omega);have s5:k<n:=by omega
             have s6:(k-1)<n:=by omega
             have s7:∀i x,((rwA g++rest).set i x).length=(rwA g++rest).length:=λi x=>List.length_set;have s8:n≤(rwA g++rest).length:=by rw[List.length_append,a15];omega
             rw[a5j,if_pos hkb]at hS;cases hlt:ltInt g[k]! g[k-1]! with
             |true=>
              rw[if_neg (by simp[hlt])]at hS
              (repeat first|simp only[ww]|(apply xa;simp+decide only[go_sem,d1,wk1,wk2,hls,hlt,s1,s2,s3,s4,s5,s6,s7,s8];rfl;kernel_rfl))
              refine a0b (b+1-(k+1)) (by omega) ⟨_,_,?_,k+1,_,rfl,by rw[Pc.swp_size];exact hg,rfl,rfl,by omega,by omega,hS⟩;have f4:=a06 (d:=swp g k (k-1)) hrest
              (simp+decide only[go_sem,a03,a00,a05 f4,a02 _ f4]<;>rfl)<;>rfl
             |false=>
              rw[if_pos (by simp[hlt])]at hS;rw[←hS]at hR6
              (repeat first|simp only[ww]|(apply xa;simp+decide only[go_sem,d1,wk1,wk2,hls,hlt,s1,s2,s3,s4,s5,s6,s7,s8,w8];rfl;kernel_rfl))
              refine a0b s (by omega) ⟨_,_,?_,s,u,g,rfl,by omega,hg,rfl,rfl,by omega,by omega,hR6⟩
              (simp+decide only[go_sem,a03,a00,a05 f3,a02 _ f3]<;>rfl)<;>rfl
            ·have d1:¬(k:Int)<b:=by omega
             rw[a5j,if_neg hkb]at hS;rw[←hS]at hR6
             (repeat first|simp only[ww]|(apply xa;simp+decide only[go_sem,d1,w8];rfl;kernel_rfl))
             refine a0b s (by omega) ⟨_,_,?_,s,u,g,rfl,by omega,hg,rfl,rfl,by omega,by omega,hR6⟩
             (simp+decide only[go_sem,a03,a00,a05 f3,a02 _ f3]<;>rfl)<;>rfl
          ·have c6:¬(2:Int)≤((b-u:Nat):Int):=by omega
           rw[if_neg h6]at hR
           (repeat first|simp only[ww]|(apply xa;simp+decide only[go_sem,d3,wb2,c6,w8];rfl;kernel_rfl))
           refine a0b s (by omega) ⟨_,_,?_,s,u,m,rfl,by omega,hm,rfl,rfl,by omega,by omega,hR⟩;have f2:=a06 (d:=m) hrest
           (simp+decide only[go_sem,a03,a00,a05 f2,a02 _ f2]<;>rfl)<;>rfl
         |succ k=>
          have d3:(1:Int)≤((k+1:Nat):Int):=by omega
          have wk:IntKind.i64.wrap (((k+1:Nat):Int)-1)=(k:Nat):=by rw[w64 (by omega) (by omega)];omega
          have hS:(if !ltInt m[k+1]! m[k]! then m else shiftDown ltInt k (swp m (k+1) k))=shiftDown ltInt (u-1) z:=hS;have s1:=a0c (d:=m) (rest:=rest) (i:=(k+1)) (by omega);have s2:=a0c (d:=m) (rest:=rest) (i:=k) (by omega);have s3:=a1z (d:=m) (rest:=rest) (i:=(k+1)) (j:=k) (by omega) (by omega);obtain⟨y,s4⟩:=a1e (d:=m) (rest:=rest) (i:=(k+1)) (j:=k) (x:=m[k]!) (by omega) (by omega);have s5:(k+1)<n:=by omega
          have s6:k<n:=by omega
          have s7:∀i x,((rwA m++rest).set i x).length=(rwA m++rest).length:=λi x=>List.length_set;have s8:n≤(rwA m++rest).length:=by rw[List.length_append,a15];omega
          cases hlt:ltInt m[k+1]! m[k]! with
          |true=>
           rw[if_neg (by simp[hlt])]at hS
           (repeat first|simp only[ww]|(apply xa;simp+decide only[go_sem,d3,wk,hls,hlt,s1,s2,s3,s4,s5,s6,s7,s8];rfl;kernel_rfl))
           refine a0b k (by omega) ⟨_,_,?_,k,_,rfl,by rw[Pc.swp_size];exact hm,rfl,rfl,by omega,hS⟩;have f4:=a06 (d:=swp m (k+1) k) hrest
           (simp+decide only[go_sem,a03,a00,a05 f4,a02 _ f4]<;>rfl)<;>rfl
          |false=>
           rw[if_pos (by simp[hlt])]at hS;rw[←hS]at hR
           (repeat first|simp only[ww]|(apply xa;simp+decide only[go_sem,d3,wk,hls,hlt,s1,s2,s3,s4,s5,s6,s7,s8];rfl;kernel_rfl))
           rw[e2r];clear s1 s2 s3 s4 s5 s6 s7 s8;by_cases h6:b-u≥2
           ·have c6:(2:Int)≤((b-u:Nat):Int):=by omega
            have hR6:partialIns ltInt a b s u (shiftUp ltInt b (u+1) m)=partialInsertionSort ltInt d a b:=by rw[←hR,if_pos h6]
            (repeat first|simp only[ww]|(apply xa;simp+decide only[go_sem,d3,wb2,c6,wu];rfl;kernel_rfl))
            refine a0t kp144_6 (λN F H=>∃(k:Nat) (g:Array Int),N=b+1-k∧g.size=n∧F=[(0,.slice 0 0 n c),(1,.int .i64 a),(2,.int .i64 b),(7,.int .i64 (u:Nat)),(8,.int .i64 ((5-(s+1):Nat):Int)),(10,.int .i64 (k:Nat))]∧H=[some (.row 1 (rwA g++rest))]∧u<k∧k≤b∧shiftUp ltInt b k g=shiftUp ltInt b (u+1) m) (b+1-(u+1)) ?_ ?_
            ·have f2:=a06 (d:=m) hrest;refine⟨_,_,?_,u+1,m,rfl,hm,rfl,rfl,by omega,by omega,rfl⟩
             (simp+decide only[go_sem,a03,a00,a05 f2,a02 _ f2]<;>rfl)<;>rfl
            ·rintro N F H ⟨k,g,rfl,hg,rfl,rfl,hk1,hk2,hS⟩
             have f3:=a06 (d:=g) hrest;have wk1:=wI1 (n:=k) (by omega);have wk2:IntKind.i64.wrap ((k:Int)-1)=((k-1:Nat):Int):=by rw[w64 (by omega) (by omega)];omega
             by_cases hkb:k<b
             ·have d1:(k:Int)<b:=by omega
              have s1:=a0c (d:=g) (rest:=rest) (i:=k) (by omega);have s2:=a0c (d:=g) (rest:=rest) (i:=(k-1)) (by omega);have s3:=a1z (d:=g) (rest:=rest) (i:=k) (j:=(k-1)) (by omega) (by omega);obtain⟨y,s4⟩:=a1e (d:=g) (rest:=rest) (i:=k) (j:=(k-1)) (x:=g[(k-1)]!) (by omega) (by omega);have s5:k<n:=by omega
              have s6:(k-1)<n:=by omega
              have s7:∀i x,((rwA g++rest).set i x).length=(rwA g++rest).length:=λi x=>List.length_set;have s8:n≤(rwA g++rest).length:=by rw[List.length_append,a15];omega
              rw[a5j,if_pos hkb]at hS;cases hlt:ltInt g[k]! g[k-1]! with
              |true=>
               rw[if_neg (by simp[hlt])]at hS
               (repeat first|simp only[ww]|(apply xa;simp+decide only[go_sem,d1,wk1,wk2,hls,hlt,s1,s2,s3,s4,s5,s6,s7,s8];rfl;kernel_rfl))
               refine a0b (b+1-(k+1)) (by omega) ⟨_,_,?_,k+1,_,rfl,by rw[Pc.swp_size];exact hg,rfl,rfl,by omega,by omega,hS⟩;have f4:=a06 (d:=swp g k (k-1)) hrest
               (simp+decide only[go_sem,a03,a00,a05 f4,a02 _ f4]<;>rfl)<;>rfl
              |false=>
               rw[if_pos (by simp[hlt])]at hS;rw[←hS]at hR6
               (repeat first|simp only[ww]|(apply xa;simp+decide only[go_sem,d1,wk1,wk2,hls,hlt,s1,s2,s3,s4,s5,s6,s7,s8,w8];rfl;kernel_rfl))
               refine a0b s (by omega) ⟨_,_,?_,s,u,g,rfl,by omega,hg,rfl,rfl,by omega,by omega,hR6⟩
               (simp+decide only[go_sem,a03,a00,a05 f3,a02 _ f3]<;>rfl)<;>rfl
             ·have d1:¬(k:Int)<b:=by omega
              rw[a5j,if_neg hkb]at hS;rw[←hS]at hR6
              (repeat first|simp only[ww]|(apply xa;simp+decide only[go_sem,d1,w8];rfl;kernel_rfl))
              refine a0b s (by omega) ⟨_,_,?_,s,u,g,rfl,by omega,hg,rfl,rfl,by omega,by omega,hR6⟩
              (simp+decide only[go_sem,a03,a00,a05 f3,a02 _ f3]<;>rfl)<;>rfl
           ·have c6:¬(2:Int)≤((b-u:Nat):Int):=by omega
            rw[if_neg h6]at hR
            (repeat first|simp only[ww]|(apply xa;simp+decide only[go_sem,d3,wb2,c6,w8];rfl;kernel_rfl))
            refine a0b s (by omega) ⟨_,_,?_,s,u,m,rfl,by omega,hm,rfl,rfl,by omega,by omega,hR⟩;have f2:=a06 (d:=m) hrest
            (simp+decide only[go_sem,a03,a00,a05 f2,a02 _ f2]<;>rfl)<;>rfl
       ·have c3:¬(2:Int)≤((u-a:Nat):Int):=by omega
        rw[if_neg h2]at hR;have hz:(swp e u (u-1)).size=n:=by rw[Pc.swp_size];exact he
        by_cases h6:b-u≥2
        ·have c6:(2:Int)≤((b-u:Nat):Int):=by omega
         have hR6:partialIns ltInt a b s u (shiftUp ltInt b (u+1) (swp e u (u-1)))=partialInsertionSort ltInt d a b:=by rw[←hR,if_pos h6]
         (repeat first|simp only[ww]|(apply xa;simp+decide only[go_sem,d2,hl,hls,hlt,wu1,c1,wb,c2,wua,c3,s1,s2,s3,s4,s5,s6,s7,s8,wb2,c6,wu];rfl;kernel_rfl))
         refine a0t kp144_6 (λN F H=>∃(k:Nat) (g:Array Int),N=b+1-k∧g.size=n∧F=[(0,.slice 0 0 n c),(1,.int .i64 a),(2,.int .i64 b),(7,.int .i64 (u:Nat)),(8,.int .i64 ((5-(s+1):Nat):Int)),(10,.int .i64 (k:Nat))]∧H=[some (.row 1 (rwA g++rest))]∧u<k∧k≤b∧shiftUp ltInt b k g=shiftUp ltInt b (u+1) (swp e u (u-1))) (b+1-(u+1)) ?_ ?_
         ·have f2:=a06 (d:=(swp e u (u-1))) hrest;refine⟨_,_,?_,u+1,(swp e u (u-1)),rfl,hz,rfl,rfl,by omega,by omega,rfl⟩
          (simp+decide only[go_sem,a03,a00,a05 f2,a02 _ f2]<;>rfl)<;>rfl
         ·rintro N F H ⟨k,g,rfl,hg,rfl,rfl,hk1,hk2,hS⟩
          have f3:=a06 (d:=g) hrest;have wk1:=wI1 (n:=k) (by omega);have wk2:IntKind.i64.wrap ((k:Int)-1)=((k-1:Nat):Int):=by rw[w64 (by omega) (by omega)];omega
          by_cases hkb:k<b
          ·have d1:(k:Int)<b:=by omega
           have s1:=a0c (d:=g) (rest:=rest) (i:=k) (by omega);have s2:=a0c (d:=g) (rest:=rest) (i:=(k-1)) (by omega);have s3:=a1z (d:=g) (rest:=rest) (i:=k) (j:=(k-1)) (by omega) (by omega);obtain⟨y,s4⟩:=a1e (d:=g) (rest:=rest) (i:=k) (j:=(k-1)) (x:=g[(k-1)]!) (by omega) (by omega);have s5:k<n:=by omega
           have s6:(k-1)<n:=by omega
           have s7:∀i x,((rwA g++rest).set i x).length=(rwA g++rest).length:=λi x=>List.length_set;have s8:n≤(rwA g++rest).length:=by rw[List.length_append,a15];omega
           rw[a5j,if_pos hkb]at hS;cases hlt:ltInt g[k]! g[k-1]! with
           |true=>
            rw[if_neg (by simp[hlt])]at hS
            (repeat first|simp only[ww]|(apply xa;simp+decide only[go_sem,d1,wk1,wk2,hls,hlt,s1,s2,s3,s4,s5,s6,s7,s8];rfl;kernel_rfl))
            refine a0b (b+1-(k+1)) (by omega) ⟨_,_,?_,k+1,_,rfl,by rw[Pc.swp_size];exact hg,rfl,rfl,by omega,by omega,hS⟩;have f4:=a06 (d:=swp g k (k-1)) hrest
            (simp+decide only[go_sem,a03,a00,a05 f4,a02 _ f4]<;>rfl)<;>rfl
           |false=>
            rw[if_pos (by simp[hlt])]at hS;rw[←hS]at hR6
            (repeat first|simp only[ww]|(apply xa;simp+decide only[go_sem,d1,wk1,wk2,hls,hlt,s1,s2,s3,s4,s5,s6,s7,s8,w8];rfl;kernel_rfl))
            refine a0b s (by omega) ⟨_,_,?_,s,u,g,rfl,by omega,hg,rfl,rfl,by omega,by omega,hR6⟩
            (simp+decide only[go_sem,a03,a00,a05 f3,a02 _ f3]<;>rfl)<;>rfl
          ·have d1:¬(k:Int)<b:=by omega
           rw[a5j,if_neg hkb]at hS;rw[←hS]at hR6
           (repeat first|simp only[ww]|(apply xa;simp+decide only[go_sem,d1,w8];rfl;kernel_rfl))
           refine a0b s (by omega) ⟨_,_,?_,s,u,g,rfl,by omega,hg,rfl,rfl,by omega,by omega,hR6⟩
           (simp+decide only[go_sem,a03,a00,a05 f3,a02 _ f3]<;>rfl)<;>rfl
        ·have c6:¬(2:Int)≤((b-u:Nat):Int):=by omega
         rw[if_neg h6]at hR
         (repeat first|simp only[ww]|(apply xa;simp+decide only[go_sem,d2,hl,hls,hlt,wu1,c1,wb,c2,wua,c3,s1,s2,s3,s4,s5,s6,s7,s8,wb2,c6,w8];rfl;kernel_rfl))
         refine a0b s (by omega) ⟨_,_,?_,s,u,(swp e u (u-1)),rfl,by omega,hz,rfl,rfl,by omega,by omega,hR⟩;have f2:=a06 (d:=(swp e u (u-1))) hrest
         (simp+decide only[go_sem,a03,a00,a05 f2,a02 _ f2]<;>rfl)<;>rfl
    ·have d2:¬(u:Int)<b:=by omega
     have hu:scanSorted ltInt e b i=u:=by rw[←hT,a6s,if_neg (by simp[hub])]
     unfold partialIns at hR;simp only[hu]at hR;rw[if_pos (by omega)]at hR;rw[←hR];obtain rfl:u=b:=by omega
     (repeat first|simp only[ww]|(apply xa;simp+decide only[go_sem,d2];rfl;kernel_rfl))
     (apply fqb;simp+decide only[go_sem,a02 _ f]<;>rfl)
def xn(x:BitVec 64):BitVec 64:=
 let r:=x^^^(x<<<13)
 let r:=r^^^(r>>>7)
 r^^^(r<<<17)
theorem d9l(r:UInt64):(xorNext r).toBitVec=xn r.toBitVec:=rfl
theorem d5t(x:BitVec 64):sem L.env Mf 179 [.ptr 0 0 0] [some (.row 1 [[u64 x]])]=some (u64 (xn x),[some (.row 1 [[u64 (xn x)]])]):=by
 (refine sv Tryz.f179 ?_;simp only[Tryz.f179,gS])
 (repeat first|simp only[ww]|(apply xa;simp+decide only[go_sem];rfl;kernel_rfl))
 (apply fqb;simp+decide only[go_sem,xn]<;>rfl)
theorem a8h{M:List Fact}{g:FuncId}{args:List AV}{H:a04}{r:AV×a04}{call:CallF}(hc:∀g args H r,call g args H=some r→sem L.env M g args H=some r)(hno:∀x∈M,x.g≠g)(lf:Nat)(h:a5b L.env call lf g args H=some r):sem L.env M g args H=some r:=a6r.2 (.run g args H r call lf (λg a H r h=>a6r.1 (hc g a H r h)) hno h)
def c0:CallF:=λ_ _ _=>none
noncomputable def c1:CallF:=λg args H=>if g=149 then a5b L.env c0 9 g args H else none
noncomputable def c2:CallF:=λg args H=>if g=108 then a5b L.env c1 9 g args H else none
theorem e2q:∀g args H r,c1 g args H=some r→sem L.env Mf g args H=some r:=by
 intro g args H r h;unfold c1 at h;split at h
 ·rename_i e;subst e;exact a8h (λ_ _ _ _ h=>by cases h) (by decide) 9 h
 ·cases h
theorem e7y:∀g args H r,c2 g args H=some r→sem L.env Mf g args H=some r:=by
 intro g args H r h;unfold c2 at h;split at h
 ·rename_i e;subst e;exact a8h e2q (by decide) 9 h
 ·cases h
theorem e0x:(List.range 129).map (λ(n:Nat)=>a5b L.env c2 9 178 [.int .i64 n] [])=(List.range 129).map λ(n:Nat)=>some (.int .u64 ((1<<<bitsLen n:Nat):Int),[]):=by kernel_rfl
theorem e6l(n:Nat)(h:n<129):sem L.env Mf 178 [.int .i64 n] []=some (u64 (BitVec.ofNat 64 (1<<<bitsLen n)),[]):=by
 have k:=congrArg (λl=>l[n]?) e0x;simp only[List.getElem?_map,List.getElem?_range h,Option.map_some,Option.some.injEq]at k;have hb:(List.range 129).all (λn=>decide (1<<<bitsLen n<300))=true:=by kernel_rfl
 have hb:=of_decide_eq_true (List.all_eq_true.1 hb n (List.mem_range.2 h));rw[←d4i _ (by omega)];exact a8h e7y (by decide) 9 k
theorem e6m(n:Nat)(h:n<129)(h8:8≤n):1<<<bitsLen n≤2*n∧0<1<<<bitsLen n:=by
 have hb:(List.range 129).all (λn=>decide (8≤n→1<<<bitsLen n≤2*n∧0<1<<<bitsLen n))=true:=by kernel_rfl
 exact of_decide_eq_true (List.all_eq_true.1 hb n (List.mem_range.2 h)) h8
theorem c7r(x:BitVec 64):FlatO (some (.row 1 [[u64 x]])):=FlatO.row (by intro r hr;simp only[List.mem_singleton]at hr;subst hr;rfl)
def bpR(a l m:Nat):Nat→UInt64×Array Int→Nat→Array Int
 |0,st,_=>st.2
 |k+1,st,i=>bpR a l m k (breakStep a l m st i) (i+1)
theorem f2b(d:Array Int)(a b:Nat)(h:b-a≥8):breakPatterns d a b=bpR a (b-a) (1<<<bitsLen (b-a)) 3 (UInt64.ofNat (b-a),d) (a+(b-a)/4*2-1):=by unfold breakPatterns;rw[if_pos h];rfl
theorem e81(n:Nat)(c:Option Nat)(d:Array Int)(rest:List (List AV))(a b:Nat)(hrest:FlatR rest)(hn:n=d.size)(hab:a+12<b)(hb:b≤n)(hn1:n≤128) :
 sem L.env Mf 141 [.slice 0 0 n c,.int .i64 a,.int .i64 b] [some (.row 1 (rwA d++rest))]=some (.tuple [],[some (.row 1 (rwA (breakPatterns d a b)++rest))]):=by
 have h0:a2p [] = .tuple []:=rfl;have f:=a06 (d:=d) hrest;obtain⟨l,hl⟩:∃l,b=a+l:=⟨b-a,by omega⟩
 have hT:=f2b d a b (by omega);rw[show b-a=l by omega]at hT;have w1:IntKind.i64.wrap ((b:Int)-a)=(l:Int):=by rw[w64 (by omega) (by omega)];omega
 have d1:(8:Int)≤l:=by omega
 have w2:IntKind.i64.wrap ((l/4:Nat):Int)=((l/4:Nat):Int):=w64 (by omega) (by omega);have w4:IntKind.i64.wrap (((l/4:Nat):Int)*2)=((l/4*2:Nat):Int):=by rw[w64 (by omega) (by omega)];omega
 have w5:IntKind.i64.wrap ((a:Int)+((l/4*2:Nat):Int))=((a+l/4*2:Nat):Int):=by rw[w64 (by omega) (by omega)];omega
 obtain⟨i0,hi0⟩:∃i0,i0=a+l/4*2-1:=⟨_,rfl⟩
 have w6:IntKind.i64.wrap (((a+l/4*2:Nat):Int)-1)=(i0:Int):=by rw[w64 (by omega) (by omega)];omega
 have w7:IntKind.i64.wrap (((a+l/4*2:Nat):Int)+1)=((i0+2:Nat):Int):=by rw[w64 (by omega) (by omega)];omega
 rw[←hi0]at hT;obtain⟨hm1,hm2⟩:=e6m l (by omega) (by omega);have hnp:=a07 (E:=L.env) (draw:=false) (call:=sem L.env Mf) (g:=178) (fs:=[]) (cs:=[]) (ar:=[.int .i64 l]) (H:=[some (.row 1 (rwA d++rest)),some (.row 1 [[u64 (BitVec.ofInt 64 l)]])]) (by kernel_rfl) (by kernel_rfl) rfl rfl (e6l l (by omega)) rfl;obtain⟨m,hm⟩:∃m,m=1<<<bitsLen l:=⟨_,rfl⟩
 rw[←hm]at hm1 hm2 hnp hT
 (refine sv Tryz.f141 ?_;simp only[Tryz.f141,gS])
 (repeat first|simp only[ww]|(apply xa;simp+decide only[go_sem,w1,d1,w2,w4,w5,w6,hnp];rfl;kernel_rfl))
 refine a0t kp141_0 (λN F H=>∃(k:Nat) (r:UInt64) (e:Array Int),N=k∧k≤3∧e.size=n∧F=[(0,.slice 0 0 n c),(1,.int .i64 a),(6,.int .i64 l),(7,.ptr 1 0 0),(8,u64 (BitVec.ofNat 64 m)),(9,.int .i64 ((i0+(3-k):Nat):Int))]∧H=[some (.row 1 (rwA e++rest)),some (.row 1 [[u64 r.toBitVec]])]∧bpR a l m k (r,e) (i0+(3-k))=breakPatterns d a b) 3 ?_ ?_
 ·refine⟨[(0,.slice 0 0 n c),(1,.int .i64 a),(6,.int .i64 l),(7,.ptr 1 0 0),(8,u64 (BitVec.ofNat 64 m)),(9,.int .i64 i0)],[some (.row 1 (rwA d++rest)),some (.row 1 [[u64 (BitVec.ofInt 64 l)]])],by(simp+decide only[go_sem,a03,a00,a05 f,a02 _ f]<;>rfl)<;>rfl,3,UInt64.ofNat l,d,rfl,by omega,hn.symm,rfl,?_,hT.symm⟩;rw[BitVec.ofInt_natCast];rfl
 ·rintro N F H ⟨k,r,e,rfl,hk,he,rfl,rfl,hR⟩
  have fe:=a06 (d:=e) hrest;cases N with
  |zero=>
   have d2:¬((i0+(3-0):Nat):Int)≤((i0+2:Nat):Int):=by omega
   have hR:e=breakPatterns d a b:=hR;rw[←hR]
   (repeat first|simp only[ww]|(apply xa;simp+decide only[go_sem,d2,w2,w4,w5,w7];rfl;kernel_rfl))
   (apply fqb;simp+decide only[go_sem,h0,a02 _ fe]<;>rfl)
  |succ k=>
   obtain⟨i,hi⟩:∃i,i=i0+(3-(k+1)):=⟨_,rfl⟩
   have hi2:i0+(3-k)=i+1:=by omega
   rw[←hi]at hR⊢;have d2:(i:Int)≤((i0+2:Nat):Int):=by omega
   have wi:=wI1 (n:=i) (by omega);have hx:=a2z (E:=L.env) (draw:=false) (call:=sem L.env Mf) (g:=179) (fs:=[]) (cs:=[]) (ar:=[.ptr 1 0 0]) (H:=[some (.row 1 (rwA e++rest)),some (.row 1 [[u64 r.toBitVec]])]) (b:=1) (by kernel_rfl) (by kernel_rfl) rfl rfl rfl (c7r _) rfl rfl (d5t r.toBitVec) (c7r _) rfl;have hst:breakStep a l m (r,e) i=(xorNext r,swp e i (a+(if(xorNext r).toNat&&&(m-1)≥l then((xorNext r).toNat&&&(m-1))-l else(xorNext r).toNat&&&(m-1)))):=rfl;rw[←d9l]at hx;obtain⟨o,ho⟩:∃o,o=(xorNext r).toNat&&&(m-1):=⟨_,rfl⟩
   have ho1:o≤m-1:=by rw[ho];exact Nat.and_le_right
   rw[←ho]at hst;have hw:IntKind.i64.wrap ((((xorNext r).toBitVec&&&BitVec.ofNat 64 m-BitVec.ofInt 64 1).toNat:Nat):Int)=(o:Nat):=by
    have h1:(BitVec.ofNat 64 m-BitVec.ofInt 64 1).toNat=m-1:=by have:BitVec.ofInt 64 1=1#64:=rfl;rw[this,BitVec.toNat_sub,BitVec.toNat_ofNat,BitVec.toNat_ofNat];omega
    rw[BitVec.toNat_and,h1];rw[show(xorNext r).toBitVec.toNat&&&(m-1)=o from ho.symm];exact w64 (by omega) (by omega)
   have hR:bpR a l m k (breakStep a l m (r,e) i) (i+1)=breakPatterns d a b:=hR;rw[hst]at hR;by_cases hol:o≥l
   ·have d3:(l:Int)≤o:=by omega
    have wo:IntKind.i64.wrap ((o:Int)-l)=((o-l:Nat):Int):=by rw[w64 (by omega) (by omega)];omega
    have wa:IntKind.i64.wrap ((a:Int)+((o-l:Nat):Int))=((a+(o-l):Nat):Int):=by rw[w64 (by omega) (by omega)];omega
    rw[if_pos hol]at hR;have s1:=a0c (d:=e) (rest:=rest) (i:=i) (by omega);have s2:=a0c (d:=e) (rest:=rest) (i:=(a+(o-l))) (by omega);have s3:=a1z (d:=e) (rest:=rest) (i:=i) (j:=(a+(o-l))) (by omega) (by omega);obtain⟨y,s4⟩:=a1e (d:=e) (rest:=rest) (i:=i) (j:=(a+(o-l))) (x:=e[(a+(o-l))]!) (by omega) (by omega);have s5:i<n:=by omega
    have s6:(a+(o-l))<n:=by omega
    have s7:∀i x,((rwA e++rest).set i x).length=(rwA e++rest).length:=λi x=>List.length_set;have s8:n≤(rwA e++rest).length:=by rw[List.length_append,a15];omega
    (repeat first|simp only[ww]|(apply xa;simp+decide only[go_sem,d2,w2,w4,w5,w7,hx,hw,d3,wo,wa,wi,s1,s2,s3,s4,s5,s6,s7,s8];rfl;kernel_rfl))
    refine a0b k (by omega) ⟨[(0,.slice 0 0 n c),(1,.int .i64 a),(6,.int .i64 l),(7,.ptr 1 0 0),(8,u64 (BitVec.ofNat 64 m)),(9,.int .i64 ((i+1:Nat):Int))],_,?_,k,xorNext r,swp e i (a+(o-l)),rfl,by omega,by rw[Pc.swp_size];exact he,by rw[hi2],rfl,by rw[hi2];exact hR⟩;have f2:=a06 (d:=swp e i (a+(o-l))) hrest
    (simp+decide only[go_sem,a03,a00,a05 f2,a02 _ f2]<;>rfl)<;>rfl
   ·have d3:¬(l:Int)≤o:=by omega
    have wa:IntKind.i64.wrap ((a:Int)+(o:Int))=((a+o:Nat):Int):=by rw[w64 (by omega) (by omega)];omega
    rw[if_neg hol]at hR;have s1:=a0c (d:=e) (rest:=rest) (i:=i) (by omega);have s2:=a0c (d:=e) (rest:=rest) (i:=(a+o)) (by omega);have s3:=a1z (d:=e) (rest:=rest) (i:=i) (j:=(a+o)) (by omega) (by omega);obtain⟨y,s4⟩:=a1e (d:=e) (rest:=rest) (i:=i) (j:=(a+o)) (x:=e[(a+o)]!) (by omega) (by omega);have s5:i<n:=by omega
    have s6:(a+o)<n:=by omega
    have s7:∀i x,((rwA e++rest).set i x).length=(rwA e++rest).length:=λi x=>List.length_set;have s8:n≤(rwA e++rest).length:=by rw[List.length_append,a15];omega
    (repeat first|simp only[ww]|(apply xa;simp+decide only[go_sem,d2,w2,w4,w5,w7,hx,hw,d3,wa,wi,s1,s2,s3,s4,s5,s6,s7,s8];rfl;kernel_rfl))
    refine a0b k (by omega) ⟨[(0,.slice 0 0 n c),(1,.int .i64 a),(6,.int .i64 l),(7,.ptr 1 0 0),(8,u64 (BitVec.ofNat 64 m)),(9,.int .i64 ((i+1:Nat):Int))],_,?_,k,xorNext r,swp e i (a+o),rfl,by omega,by rw[Pc.swp_size];exact he,by rw[hi2],rfl,by rw[hi2];exact hR⟩;have f2:=a06 (d:=swp e i (a+o)) hrest
    (simp+decide only[go_sem,a03,a00,a05 f2,a02 _ f2]<;>rfl)<;>rfl
open Go.Proofs Go.Ax Go.Pc
inductive RI(l:List Nat):AV→a04→Prop
 |imm (c:Option Nat):RI l (.islice (l.map a12) c) []
 |nil (h:l=[]):RI l .nilslice []
 |blk (c:Option Nat) (rest:List (List AV)) (hf:FlatR (l.map a12++rest)):RI l (.slice 0 0 l.length c) [some (.row 1 (l.map a12++rest))]
theorem e0a{l:List Nat}{V:AV}{H:a04}(h:RI l V H):b4f L.env (a01 H) 34 V=some (.int .i64 l.length):=by
 cases h with
 |imm c=>simp+decide only[go_sem,List.length_map]
 |nil h=>subst h;simp+decide only[go_sem];rfl
 |blk c rest hf=>simp+decide only[go_sem]
theorem e0b{l:List Nat}{V:AV}{H:a04}(h:RI l V H){i v:Nat}(hi:l[i]?=some v):∃p,a11 L.env (a01 H) 34 V (.int .i64 i)=some p∧a51 L.env (a01 H) 3 p=some (.int .i64 v):=by
 have hlt:=(List.getElem?_eq_some_iff.1 hi).1;cases h with
 |imm c=>
  have hg:(l.map a12)[i]?=some [.int .i64 v]:=by rw[List.getElem?_map,hi];rfl
  exact⟨_,by simp+decide only[go_sem,hg,hlt,List.length_map]<;>rfl,by simp+decide only[go_sem,hg,hlt]⟩
 |nil h=>subst h;simp at hlt
 |blk c rest hf=>
  have hg:(l.map a12++rest)[i]?=some [.int .i64 v]:=by rw[List.getElem?_append_left (by simpa using hlt),List.getElem?_map,hi];rfl
  have hl2:i<(l.map a12++rest).length:=by simp;omega
  exact⟨_,by simp+decide only[go_sem,hg,hlt,hl2]<;>rfl,by simp+decide only[go_sem,hg,hlt,hl2]⟩
theorem b4v{l:List Nat}{V v:AV}{H:a04}(h:RI l V H)(hv:refs v=[]):a0j false H.length v H=some (v,H):=by
 cases h with
 |imm c=>exact b3g hv
 |nil h=>exact b3g hv
 |blk c rest hf=>have h1:=λπ=>a02 π hf;have hr:∀π,ren π v=v:=λπ=>a0f π v hv;simp+decide only[go_sem,a0j,a16 _ _ _ _ hv,h1]
theorem d56{l:List Nat}{V:AV}{H:a04}(h:RI l V H)(b:Nat):a0k (a01 H b)=[]:=by
 cases h with
 |imm c=>rfl
 |nil h=>rfl
 |blk c rest hf=>
  cases b with
  |zero=>exact a0m hf
  |succ b=>rfl
theorem c2g{l:List Nat}{V:AV}{H:a04}(h:RI l V H):(∀b∈refs V,b<H.length)∧(refs V).length≤1:=by
 cases h with
 |imm c=>exact⟨λb hb=>by simp[refs]at hb,by simp[refs]⟩
 |nil h=>exact⟨λb hb=>by simp[refs]at hb,by simp[refs]⟩
 |blk c rest hf=>exact⟨λb hb=>by simp[refs]at hb;subst hb;simp,by simp[refs]⟩
theorem c0v{l:List Nat}{V:AV}{H:a04}(h:RI l V H){keep:List Nat}{F F':Frm}(hk:a1l keep F=F')(hF:a0a (F'.map (·.2))=refs V∨a0a (F'.map (·.2))=[]):gcD H.length keep F H=some (F',H):=by
 obtain⟨h1,h2⟩:=c2g h;refine e1v hk ?_ ?_ (d56 h)
 ·rcases hF with e|e<;>rw[e]
  ·exact h1
  ·intro b hb;simp at hb
 ·rcases hF with e|e<;>rw[e]
  ·omega
  ·simp
theorem c0w{l:List Nat}{V:AV}{H:a04}(h:RI l V H){d:Bool}{g:FuncId}{pre post:List AV}{v:AV}(hx:L.env.ext g=false)(hf:(L.env.fn g).isSome=true)(hp:a0a pre=[])(hq:a0a post=[])(hv:refs v=[])
 (hr:∀V H,RI l V H→sem L.env Mf g (pre++V::post) H=some (v,H)):a0d L.env d (sem L.env Mf) (.func (.func g) [] []) (pre++V::post) H=some (v,H,refs V):=by
 have hr:=hr V H h;cases h with
 |imm c=>exact a07 hx hf rfl (by simp only[List.nil_append,List.append_nil,a6w,a3b,c0y,hp,hq]) (by simpa using hr) hv
 |nil h=>exact a07 hx hf rfl (by simp only[List.nil_append,List.append_nil,a6w,a3b,b6i,hp,hq]) (by simpa using hr) hv
 |blk c rest hfl=>refine a1b (b:=0) (fs:=[]) (cs:=[]) (args:=pre ++ .slice 0 0 l.length c::post) hx hf (by simp) rfl (a0m hfl) (FlatO.row hfl) (by simp only[a6w,a3b,hp,hq,b4w,List.nil_append,List.append_nil]) (args':=pre ++ .slice 0 0 l.length c::post) ?_ hr hv;rw[List.map_append,List.map_cons,a27];have e:∀l:List AV,a0a l=[]→l.map (ren (a3w [0]))=l:=λl hl=>b2d _ hl;rw[e _ hp,e _ hq]
theorem e1k(l:List Nat)(V:AV)(H:a04)(hV:RI l V H)(hl:l.length<1000000)(t:Nat):sem L.env Mf 15 [V,.int .i64 t] H=some (.bool (l.contains t),H):=by
 have hlen:=e0a hV;have hlow:=c2g hV
 suffices hs:∃r:AV×a04,(r=(.bool (l.contains t),H))∧sem L.env Mf 15 [V,.int .i64 t] H=some r by obtain⟨r,rfl,h3⟩:=hs;exact h3
 (refine svE Tryz.f15 ?_;simp only[Tryz.f15,gS])
 (repeat first|simp only[ww]|(apply xa;simp+decide only[go_sem,hlen];rfl;kernel_rfl))
 refine a0t kp15_0 (λn F H1=>∃(i:Nat),n=l.length-i∧i≤l.length∧F=[(0,V),(1,.int .i64 t),(5,.int .i64 i)]∧H1=H∧(l.drop i).contains t=l.contains t) l.length ?_ ?_
 ·exact⟨_,_,c0v hV (by simp+decide only[go_sem]<;>rfl) (.inl (by simp+decide only[go_sem])),0,rfl,Nat.zero_le _,rfl,rfl,rfl⟩
 ·rintro n F H1 ⟨i,rfl,hi,rfl,rfl,hout⟩
  by_cases hlt:i<l.length
  ·obtain⟨v,hv⟩:∃v,l[i]?=some v:=⟨_,z9e hlt⟩
   obtain⟨p,hp1,hp2⟩:=e0b hV hv;have hd:l.drop i=v::l.drop (i+1):=by rw[←List.getElem_cons_drop hlt,(List.getElem?_eq_some_iff.1 hv).2]
   rw[hd]at hout;have c1:(i:Int)<l.length:=by omega
   have hw:=wI1 (n:=i) (by omega);by_cases h1:v=t
   ·have c2:(v:Int)=t:=by omega
    subst h1
    (repeat first|simp only[ww]|(apply xa;simp+decide only[go_sem,hlen,c1,hp1,hp2];rfl;kernel_rfl))
    refine a3q (vs:=[.bool true]) (r:=(_,_)) (by simp+decide only[go_sem]) (b4v hV rfl) ?_;rw[←hout];simp[a2p]
   ·have c2:¬(v:Int)=t:=by omega
    (repeat first|simp only[ww]|(apply xa;simp+decide only[go_sem,hlen,c1,hp1,hp2,c2,hw];rfl;kernel_rfl))
    refine a0b (l.length-(i+1)) (by omega) ⟨_,_,c0v hV (by simp+decide only[go_sem]<;>rfl) (.inl (by simp+decide only[go_sem])),i+1,rfl,hlt,rfl,rfl,?_⟩;rw[←hout,List.contains_cons];have:(t==v)=false:=by simpa using λe=>h1 e.symm
    rw[this,Bool.false_or]
  ·obtain rfl:i=l.length:=by omega
   have c1:¬(l.length:Int)<l.length:=by omega
   rw[List.drop_length]at hout
   (repeat first|simp only[ww]|(apply xa;simp+decide only[go_sem,hlen,c1];rfl;kernel_rfl))
   refine a32 (vs:=[.bool false]) (r:=(_,_)) (by simp+decide only[go_sem]) (b4v hV rfl) ?_;rw[←hout];rfl
theorem c7e{l:List Nat}{V:AV}{H:a04}(hV:RI l V H)(hl:l.length<1000000){d:Bool}(t:Nat):a0d L.env d (sem L.env Mf) (.func (.func 15) [] []) [V,.int .i64 t] H=some (.bool (l.contains t),H,refs V):=c0w hV (pre:=[]) (post:=[.int .i64 t]) (by kernel_rfl) (by kernel_rfl) rfl rfl rfl (λV H hV=>e1k l V H hV hl t)
inductive RV(l:List Nat):AV→Prop
 |imm (c:Option Nat):RV l (.islice (l.map a12) c)
 |nil (h:l=[]):RV l .nilslice
theorem RV.ri{l:List Nat}{V:AV}(h:RV l V):RI l V []:=by
 cases h with
 |imm c=>exact .imm c
 |nil h=>exact .nil h
theorem RV.refs{l:List Nat}{V:AV}(h:RV l V):Ax.refs V=[]:=by cases h<;>rfl
theorem a3k{l:List Nat}{V:AV}(h:RV l V)(hp:FHeap):b4f L.env hp 34 V=some (.int .i64 l.length):=by
 cases h with
 |imm c=>simp+decide only[go_sem,List.length_map]
 |nil h=>subst h;simp+decide only[go_sem];rfl
theorem b25{l:List Nat}{V:AV}(h:RV l V)(hp:FHeap){i v:Nat}(hi:l[i]?=some v):∃p,a11 L.env hp 34 V (.int .i64 i)=some p∧a51 L.env hp 3 p=some (.int .i64 v):=by
 have hlt:=(List.getElem?_eq_some_iff.1 hi).1;cases h with
 |imm c=>
  have hg:(l.map a12)[i]?=some [.int .i64 v]:=by rw[List.getElem?_map,hi];rfl
  exact⟨_,by simp+decide only[go_sem,hg,hlt,List.length_map]<;>rfl,by simp+decide only[go_sem,hg,hlt]⟩
 |nil h=>subst h;simp at hlt
theorem d0g(a:List Nat)(A:AV)(hA:RV a A)(ha:a.length<1000000)(l:List Nat)(V:AV)(H:a04)(hV:RI l V H)(hl:l.length<1000000):sem L.env Mf 14 [A,V] H=some (.bool (a1d a l),H):=by
 have hlen:=a3k hA (a01 H);have hlow:=c2g hV;have hr:=hA.refs
 suffices hs:∃r:AV×a04,(r=(.bool (a1d a l),H))∧sem L.env Mf 14 [A,V] H=some r by obtain⟨r,rfl,h3⟩:=hs;exact h3
 (refine svE Tryz.f14 ?_;simp only[Tryz.f14,gS])
 (repeat first|simp only[ww]|(apply xa;simp+decide only[go_sem,hlen];rfl;kernel_rfl))
 refine a0t kp14_0 (λn F H1=>∃(i:Nat),n=a.length-i∧i≤a.length∧F=[(0,A),(1,V),(5,.int .i64 i)]∧H1=H∧a1d (a.drop i) l=a1d a l) a.length ?_ ?_
 ·exact⟨_,_,c0v hV (by simp+decide only[go_sem]<;>rfl) (.inl (by simp+decide only[go_sem,hr,List.nil_append,List.append_nil])),0,rfl,Nat.zero_le _,rfl,rfl,rfl⟩
 ·rintro n F H1 ⟨i,rfl,hi,rfl,rfl,hout⟩
  by_cases hlt:i<a.length
  ·obtain⟨v,hv⟩:∃v,a[i]?=some v:=⟨_,z9e hlt⟩
   obtain⟨p,hp1,hp2⟩:=b25 hA (a01 H1) hv;have hd:a.drop i=v::a.drop (i+1):=by rw[←List.getElem_cons_drop hlt,(List.getElem?_eq_some_iff.1 hv).2]
   rw[hd]at hout;simp only[a1d,List.any_cons]at hout;have c1:(i:Int)<a.length:=by omega
   have hw:=wI1 (n:=i) (by omega);have hc:=c7e hV hl (d:=false) v;by_cases h1:l.contains v=true
   ·rw[h1]at hout hc
    (repeat first|simp only[ww]|(apply xa;simp+decide only[go_sem,hlen,c1,hp1,hp2,hc];rfl;kernel_rfl))
    refine a3q (vs:=[.bool true]) (r:=(_,_)) (by simp+decide only[go_sem]) (b4v hV rfl) ?_;simp only[Bool.true_or]at hout;simp only[a1d,a2p,←hout]
   ·have h1:l.contains v=false:=by simpa using h1
    rw[h1]at hout hc
    (repeat first|simp only[ww]|(apply xa;simp+decide only[go_sem,hlen,c1,hp1,hp2,hc,hw];rfl;kernel_rfl))
    refine a0b (a.length-(i+1)) (by omega) ⟨_,_,c0v hV (by simp+decide only[go_sem]<;>rfl) (.inl (by simp+decide only[go_sem,hr,List.nil_append,List.append_nil])),i+1,rfl,hlt,rfl,rfl,?_⟩;simpa only[Bool.false_or,a1d]using hout
  ·obtain rfl:i=a.length:=by omega
   have c1:¬(a.length:Int)<a.length:=by omega
   rw[List.drop_length]at hout
   (repeat first|simp only[ww]|(apply xa;simp+decide only[go_sem,hlen,c1];rfl;kernel_rfl))
   refine a32 (vs:=[.bool false]) (r:=(_,_)) (by simp+decide only[go_sem]) (b4v hV rfl) ?_;rw[←hout];rfl
theorem a9z{a:List Nat}{A:AV}(hA:RV a A)(ha:a.length<1000000){l:List Nat}{V:AV}{H:a04}(hV:RI l V H)(hl:l.length<1000000){d:Bool}:a0d L.env d (sem L.env Mf) (.func (.func 14) [] []) [A,V] H=some (.bool (a1d a l),H,refs V):=c0w hV (pre:=[A]) (post:=[]) (by kernel_rfl) (by kernel_rfl) (by simp[a0a,hA.refs]) rfl rfl (λV H hV=>d0g a A hA ha l V H hV hl)
inductive TBv(tb:List (List Nat)):AV→Prop
 |imm (VS:List AV) (c:Option Nat) (hl:VS.length=tb.length) (h:∀(i:Nat) r,tb[i]?=some r→∃V,VS[i]?=some V∧RV r V):TBv tb (.islice (VS.map λv=>[v]) c)
 |nil (h:tb=[]):TBv tb .nilslice
theorem TBv.refs{tb:List (List Nat)}{V:AV}(h:TBv tb V):Ax.refs V=[]:=by cases h<;>rfl
theorem a8e{tb:List (List Nat)}{V:AV}(h:TBv tb V)(hp:FHeap):b4f L.env hp 55 V=some (.int .i64 tb.length):=by
 cases h with
 |imm VS c hl h=>simp+decide only[go_sem,List.length_map,hl]
 |nil h=>subst h;simp+decide only[go_sem];rfl
theorem a8f{tb:List (List Nat)}{V:AV}(h:TBv tb V)(hp:FHeap){i:Nat}{r:List Nat}(hi:tb[i]?=some r):∃p W,a11 L.env hp 55 V (.int .i64 i)=some p∧a51 L.env hp 34 p=some W∧RV r W:=by
 have hlt:=(List.getElem?_eq_some_iff.1 hi).1;cases h with
 |imm VS c hl h=>
  obtain⟨W,hW,hr⟩:=h i r hi;have hg:(VS.map λv=>[v])[i]?=some [W]:=by rw[List.getElem?_map,hW];rfl
  have hlt':i<VS.length:=by omega
  cases hr with
  |imm c'=>exact⟨_,_,by simp+decide only[go_sem,hg,hlt',List.length_map]<;>rfl,by simp+decide only[go_sem,hg,hlt']<;>rfl,.imm c'⟩
  |nil h=>exact⟨_,_,by simp+decide only[go_sem,hg,hlt',List.length_map]<;>rfl,by simp+decide only[go_sem,hg,hlt']<;>rfl,.nil h⟩
 |nil h=>subst h;simp at hlt
def c0e(tb:List (List Nat)):Prop:=tb.length<1000000∧∀r∈tb,r.length<1000000
theorem b9m(tb:List (List Nat))(A:AV)(hA:TBv tb A)(hs:c0e tb)(l:List Nat)(V:AV)(H:a04)(hV:RI l V H)(hl:l.length<1000000):sem L.env Mf 67 [A,V] H=some (.bool (a4g tb l),H):=by
 have hlen:=a8e hA (a01 H);have hlow:=c2g hV;have hr:=hA.refs
 suffices hs:∃r:AV×a04,(r=(.bool (a4g tb l),H))∧sem L.env Mf 67 [A,V] H=some r by obtain⟨r,rfl,h3⟩:=hs;exact h3
 (refine svE Tryz.f67 ?_;simp only[Tryz.f67,gS])
 (repeat first|simp only[ww]|(apply xa;simp+decide only[go_sem,hlen];rfl;kernel_rfl))
 refine a0t kp67_0 (λn F H1=>∃(i:Nat),n=tb.length-i∧i≤tb.length∧F=[(0,A),(1,V),(5,.int .i64 i)]∧H1=H∧a4g (tb.drop i) l=a4g tb l) tb.length ?_ ?_
 ·exact⟨_,_,c0v hV (by simp+decide only[go_sem]<;>rfl) (.inl (by simp+decide only[go_sem,hr,List.nil_append,List.append_nil])),0,rfl,Nat.zero_le _,rfl,rfl,rfl⟩
 ·rintro n F H1 ⟨i,rfl,hi,rfl,rfl,hout⟩
  by_cases hlt:i<tb.length
  ·obtain⟨r,hrr⟩:∃r,tb[i]?=some r:=⟨_,z9e hlt⟩
   obtain⟨p,W,hp1,hp2,hW⟩:=a8f hA (a01 H1) hrr;have hrl:r.length<1000000:=hs.2 r (List.mem_of_getElem? hrr);have hd:tb.drop i=r::tb.drop (i+1):=by rw[←List.getElem_cons_drop hlt,(List.getElem?_eq_some_iff.1 hrr).2]
   rw[hd]at hout;simp only[a4g,List.all_cons]at hout;have c1:(i:Int)<tb.length:=by omega
   have hw:=wI1 (n:=i) (by have:=hs.1;omega);have hwl:=a3k hW (a01 H1);have hc:=a9z hW hrl hV hl (d:=false);by_cases h0:r=[]
   ·subst h0;have c2:¬((([]:List Nat).length:Int)>0):=by simp
    (repeat first|simp only[ww]|(apply xa;simp+decide only[go_sem,hlen,c1,hp1,hp2,hwl,c2,hw];rfl;kernel_rfl))
    refine a0b (tb.length-(i+1)) (by omega) ⟨_,_,c0v hV (by simp+decide only[go_sem]<;>rfl) (.inl (by simp+decide only[go_sem,hr,List.nil_append,List.append_nil])),i+1,rfl,hlt,rfl,rfl,?_⟩;have hu:unc [] l=false:=by rfl
    rw[hu]at hout;simpa only[Bool.not_false,Bool.true_and,a4g]using hout
   ·have hpos:0<r.length:=List.length_pos_iff.2 h0;have c2:(0:Int)<r.length:=by omega
    have he:r.isEmpty=false:=by cases r with|nil=>exact absurd rfl h0|cons=>rfl
    have hu:unc r l = !a1d r l:=by unfold unc;rw[he];rfl
    rw[hu,Bool.not_not]at hout;by_cases h1:a1d r l=true
    ·rw[h1]at hout hc
     (repeat first|simp only[ww]|(apply xa;simp+decide only[go_sem,hlen,c1,hp1,hp2,hwl,c2,hc,hw];rfl;kernel_rfl))
     refine a0b (tb.length-(i+1)) (by omega) ⟨_,_,c0v hV (by simp+decide only[go_sem]<;>rfl) (.inl (by simp+decide only[go_sem,hr,List.nil_append,List.append_nil])),i+1,rfl,hlt,rfl,rfl,?_⟩;simpa only[Bool.true_and,a4g]using hout
    ·have h1:a1d r l=false:=by simpa using h1
     rw[h1]at hout hc
     (repeat first|simp only[ww]|(apply xa;simp+decide only[go_sem,hlen,c1,hp1,hp2,hwl,c2,hc];rfl;kernel_rfl))
     refine a3q (vs:=[.bool false]) (r:=(_,_)) (by simp+decide only[go_sem]) (b4v hV rfl) ?_;simp only[Bool.false_and]at hout;simp only[a4g,a2p,←hout]
  ·obtain rfl:i=tb.length:=by omega
   have c1:¬(tb.length:Int)<tb.length:=by omega
   rw[List.drop_length]at hout
   (repeat first|simp only[ww]|(apply xa;simp+decide only[go_sem,hlen,c1];rfl;kernel_rfl))
   refine a32 (vs:=[.bool true]) (r:=(_,_)) (by simp+decide only[go_sem]) (b4v hV rfl) ?_;rw[←hout];rfl
theorem c1k{tb:List (List Nat)}{A:AV}(hA:TBv tb A)(hs:c0e tb){l:List Nat}{V:AV}{H:a04}(hV:RI l V H)(hl:l.length<1000000){d:Bool}:a0d L.env d (sem L.env Mf) (.func (.func 67) [] []) [A,V] H=some (.bool (a4g tb l),H,refs V):=c0w hV (pre:=[A]) (post:=[]) (by kernel_rfl) (by kernel_rfl) (by simp[a0a,hA.refs]) rfl rfl (λV H hV=>b9m tb A hA hs l V H hV hl)
theorem b2z{x:Int}:∀{l:List Int},(∀y∈l,y<x)→c7d x l=l++[x]
 | [],_=>by simp[c7d]
 |y::l,h=>by have h1:=h y (by simp);have ih:=b2z (l:=l) (λz hz=>h z (by simp[hz]));unfold c7d;simp[ih,show ¬x≤y by omega,show ¬x<y by omega]
def b8m(tb:List (List Nat))(i:Nat):List Int:=b44 i λk=>!(a1j tb k).isEmpty
theorem c6r{tb:List (List Nat)}{i:Nat}{z:Int}(h:z∈b8m tb i):z<i:=by obtain⟨k,rfl,h1,_⟩:=b1m.1 h;omega
theorem d0f{tb:List (List Nat)}{i:Nat}:(b8m tb i).contains (i:Int)=false:=by
 cases h:(b8m tb i).contains (i:Int)with
 |false=>rfl
 |true=>have:=c6r (List.contains_iff_mem.1 h);omega
theorem c62{tb:List (List Nat)}{i:Nat}{r:List Nat}(h:tb[i]?=some r):a1j tb i=r:=by unfold a1j;rw[List.getD_eq_getElem?_getD,h];rfl
theorem c4f(tb:List (List Nat))(A:AV)(hA:TBv tb A)(hs:c0e tb):sem L.env Mf 54 [A] []=some (.map 0,[some (.uset (b8m tb tb.length))]):=by
 have hlen:=a8e hA (a01 [some (.uset [])]);have hr:=hA.refs;have hren:∀π,ren π A=A:=λπ=>a0f π A hr
 suffices hs:∃r:AV×a04,(r=(.map 0,[some (.uset (b8m tb tb.length))]))∧sem L.env Mf 54 [A] []=some r by obtain⟨r,rfl,h3⟩:=hs;exact h3
 (refine svE Tryz.f54 ?_;simp only[Tryz.f54,gS])
 (repeat first|simp only[ww]|(apply xa;simp+decide only[go_sem,hlen];rfl;kernel_rfl))
 refine a0t kp54_0 (λn F H1=>∃(i:Nat),n=tb.length-i∧i≤tb.length∧F=[(3,.map 0),(7,A),(8,.int .i64 tb.length),(9,.int .i64 i)]∧H1=[some (.uset (b8m tb i))]) tb.length ?_ ?_
 ·refine⟨_,_,?_,0,rfl,Nat.zero_le _,rfl,rfl⟩
  (simp+decide only[go_sem,a03,a00,hr,hren]<;>rfl)<;>rfl
 ·rintro n F H1 ⟨i,rfl,hi,rfl,rfl⟩
  by_cases hlt:i<tb.length
  ·obtain⟨r,hrr⟩:∃r,tb[i]?=some r:=⟨_,z9e hlt⟩
   obtain⟨p,W,hp1,hp2,hW⟩:=a8f hA (a01 [some (.uset (b8m tb i))]) hrr;have hwl:=a3k hW (a01 [some (.uset (b8m tb i))]);have c1:(i:Int)<tb.length:=by omega
   have hw:=wI1 (n:=i) (by have:=hs.1;omega);have hn:=d0f (tb:=tb) (i:=i);have hrow:=c62 hrr;by_cases h0:r=[]
   ·subst h0;have c2:¬((0:Int)<(([]:List Nat).length:Int)):=by simp
    have he:b8m tb (i+1)=b8m tb i:=by unfold b8m;rw[b30,hrow];simp
    (repeat first|simp only[ww]|(apply xa;simp+decide only[go_sem,c1,hp1,hp2,hwl,c2,hw];rfl;kernel_rfl))
    refine a0b (tb.length-(i+1)) (by omega) ⟨_,_,?_,i+1,rfl,hlt,rfl,rfl⟩;rw[he]
    (simp+decide only[go_sem,a03,a00,hr,hren]<;>rfl)<;>rfl
   ·have hpos:0<r.length:=List.length_pos_iff.2 h0;have c2:(0:Int)<r.length:=by omega
    have he:c7d (i:Int) (b8m tb i)=b8m tb (i+1):=by
     rw[b2z (λy hy=>c6r hy)];unfold b8m;rw[b30,hrow];cases r with
     |nil=>exact absurd rfl h0
     |cons x r=>rfl
    (repeat first|simp only[ww]|(apply xa;simp+decide only[go_sem,c1,hp1,hp2,hwl,c2,hw,hn,he];rfl;kernel_rfl))
    refine a0b (tb.length-(i+1)) (by omega) ⟨_,_,?_,i+1,rfl,hlt,rfl,rfl⟩
    (simp+decide only[go_sem,a03,a00,hr,hren]<;>rfl)<;>rfl
  ·obtain rfl:i=tb.length:=by omega
   have c1:¬(tb.length:Int)<tb.length:=by omega
   (repeat first|simp only[ww]|(apply xa;simp+decide only[go_sem,c1];rfl;kernel_rfl))
   refine a3q (vs:=[.map 0]) (r:=(.map 0,[some (.uset (b8m tb tb.length))])) (by simp+decide only[go_sem]) ?_ rfl;rfl
theorem c2o{V W:List Int}:V.Nodup→(∀x∈V,x∈W)→V.length≤W.length:=by
 induction V generalizing W with
 |nil=>intro _ _;simp
 |cons a V ih=>intro h1 h2;have h1:=List.nodup_cons.1 h1;have ha:=h2 a (by simp);have:=ih (W:=W.erase a) h1.2 (λx hx=>(List.mem_erase_of_ne (λe=>h1.1 (by rw[←e];exact hx))).2 (h2 x (by simp[hx])));rw[List.length_erase_of_mem ha]at this;have:=List.length_pos_of_mem ha;simp only[List.length_cons];omega
def drS(ks V:List Int):List Int:=ks.filter λy=>!V.contains y
def drN(ks V:List Int):Nat:=V.countP λy=>ks.contains y
section
variable {ks V:List Int}{i:Int}
theorem d6x:drS ks []=ks:=by unfold drS;exact List.filter_eq_self.2 λ_ _=>by simp
theorem d6y(h:i∉V):(drS ks V).contains i=ks.contains i:=by rw[Bool.eq_iff_iff,List.contains_iff_mem,List.contains_iff_mem];unfold drS;rw[List.mem_filter];simp[h]
theorem c7z:(drS ks V).filter (λy=>!decide (y=i))=drS ks (V++[i]):=by unfold drS;rw[List.filter_filter];refine List.filter_congr λy _=>?_;rw[Bool.eq_iff_iff];simp[and_comm]
theorem e2a(h:ks.contains i=false):drS ks (V++[i])=drS ks V:=by
 rw[←c7z];refine List.filter_eq_self.2 λy hy=>?_;have hy:y∈ks:=(List.mem_filter.1 hy).1;have:y≠i:=λe=>by rw[e]at hy;rw[List.contains_iff_mem.2 hy]at h;cases h
 simp[this]
theorem c80(h:ks.contains i=true):drN ks (V++[i])=drN ks V+1:=by unfold drN;rw[List.countP_append,List.countP_cons];simp only[h,if_true,List.countP_nil,Nat.zero_add]
theorem d42(h:ks.contains i=false):drN ks (V++[i])=drN ks V:=by unfold drN;rw[List.countP_append,List.countP_cons];simp only[h,Bool.false_eq_true,if_false,List.countP_nil,Nat.add_zero]
theorem d43:drN ks V≤V.length:=List.countP_le_length
theorem d19{W:List Int}(h:V.Perm W):drS ks V=drS ks W:=by
 unfold drS;refine List.filter_congr λy _=>?_
 congr 1
 rw[Bool.eq_iff_iff,List.contains_iff_mem,List.contains_iff_mem,h.mem_iff]
theorem c3d{W:List Int}(h:V.Perm W):drN ks V=drN ks W:=h.countP_eq _
end
theorem d6w(ks other:List Int)(hn:other.Nodup)(hl:other.length<1000000):sem L.env Mf 55 [.map 0,.iset other] [some (.uset ks)]=some (.int .i64 (drN ks other),[some (.uset (drS ks other))]):=by
 suffices hs:∃r:AV×a04,(r=(.int .i64 (drN ks other),[some (.uset (drS ks other))]))∧sem L.env Mf 55 [.map 0,.iset other] [some (.uset ks)]=some r by obtain⟨r,rfl,h3⟩:=hs;exact h3
 (refine svE Tryz.f55 ?_;simp only[Tryz.f55,gS])
 (repeat first|simp only[ww]|(apply xa;simp+decide only[go_sem];rfl;kernel_rfl))
 refine d2y kp55_0 other (λV=>[(0,.map 0),(4,.int .i64 (drN ks V)),(7,.ptr 1 0 0)]) (λV=>[some (.uset (drS ks V)),some (.miter other V none)]) 1 (.exit 0)
  [(9,.bool false),(8,.tuple [.bool false]),(0,.map 0),(4,.int .i64 (drN ks other)),(7,.ptr 1 0 0)] [some (.uset (drS ks other)),none] hn ?_ ?_ ?_ ?_ ?_
 ·(simp+decide only[go_sem,a03,a00,d6x]<;>rfl)<;>rfl
 ·intro V _ _;exact⟨rfl,none,rfl⟩
 ·intro V i h1 h2 h3 h4;have hh:=d6y (ks:=ks) h4;have hb:drN ks V<1000000:=Nat.lt_of_le_of_lt (Nat.le_trans d43 (c2o h1 h2)) hl;have hw:=wI1 (n:=drN ks V) (by omega);refine xq (by simp+decide only[go_sem]<;>rfl) ?_;by_cases hc:ks.contains i=true
  ·rw[hc]at hh;have e1:=c7z (ks:=ks) (V:=V) (i:=i);have e2:=c80 (ks:=ks) (V:=V) (i:=i) hc
   (repeat first|simp only[ww]|(apply xa;simp+decide only[go_sem,hh,hw,e1];rfl;kernel_rfl))
   show gcD _ _ _ _=_;rw[e2]
   (simp+decide only[go_sem,a03,a00]<;>rfl)<;>rfl
  ·have hc:ks.contains i=false:=by simpa using hc
   rw[hc]at hh;have e1:=e2a (ks:=ks) (V:=V) (i:=i) hc;have e2:=d42 (ks:=ks) (V:=V) (i:=i) hc;rw[e1,e2]
   (repeat first|simp only[ww]|(apply xa;simp+decide only[go_sem,hh];rfl;kernel_rfl))
   show gcD _ _ _ _=_
   (simp+decide only[go_sem,a03,a00]<;>rfl)<;>rfl
 ·intro V hV;have e1:=d19 (ks:=ks) hV;have e2:=c3d (ks:=ks) hV;refine xq (by simp+decide only[go_sem]<;>rfl) ?_;rw[e1,e2]
  (repeat first|simp only[ww]|(apply xa;simp+decide only[go_sem];rfl;kernel_rfl))
  exact⟨rfl,rfl,rfl⟩
 ·show Wp _ _ _ _ _
  (repeat first|simp only[ww]|(apply xa;simp+decide only[go_sem];rfl;kernel_rfl))
  refine a3q (vs:=[.int .i64 (drN ks other)]) (r:=(.int .i64 (drN ks other),[some (.uset (drS ks other))])) (by simp+decide only[go_sem]) ?_ rfl;simp+decide only[go_sem,a2p]<;>rfl
theorem b9j{d:Bool}(H:a04)(b:Nat)(ks other:List Int)(hb:a01 H b=some (.uset ks))(hn:other.Nodup)(hl:other.length<1000000) :
 a0d L.env d (sem L.env Mf) (.func (.func 55) [] []) [.map b,.iset other] H=some (.int .i64 (drN ks other),H.set b (some (.uset (drS ks other))),[b]):=
 a2z (fs:=[]) (cs:=[]) (args:=[.map b,.iset other]) (by kernel_rfl) (by kernel_rfl) rfl hb rfl (λπ=>rfl) (by simp[a0a,refs]) (args':=[.map 0,.iset other]) (by simp[ren,a3w]) (d6w ks other hn hl) (λπ=>rfl) rfl
def Asc(n:Nat):Int→List Nat→Prop
 |_,[]=>True
 |last,x::r=>last<x∧x<n∧Asc n x r
theorem c9p(tb:List (List Nat))(A:AV)(hA:TBv tb A)(ht:tb.length≤65536)(n:Nat)(hn:n≤4096)(hr:∀r∈tb,r.length<1000000∧Asc n (-1) r):sem L.env Mf 52 [A,.int .i64 n] []=some (.int .i64 0,[]):=by
 have hlen:=a8e hA (a01 []);have hrf:=hA.refs;have hren:∀π,ren π A=A:=λπ=>a0f π A hrf
 suffices hs:∃r:AV×a04,(r=(.int .i64 0,[]))∧sem L.env Mf 52 [A,.int .i64 n] []=some r by obtain⟨r,rfl,h3⟩:=hs;exact h3
 have c0:¬(n:Int)<0:=by omega
 have c1:¬(4096:Int)<n:=by omega
 have c2:¬(65536:Int)<tb.length:=by omega
 (refine svE Tryz.f52 ?_;simp only[Tryz.f52,gS])
 (repeat first|simp only[ww]|(apply xa;simp+decide only[go_sem,hlen,c0,c1,c2];rfl;kernel_rfl))
 refine a0t kp52_1 (λq F H1=>∃(i:Nat),q=tb.length-i∧i≤tb.length∧F=[(1,.int .i64 n),(21,A),(22,.int .i64 tb.length),(23,.int .i64 i)]∧H1=[]) tb.length ?_ ?_
 ·refine⟨_,_,?_,0,rfl,Nat.zero_le _,rfl,rfl⟩
  (simp+decide only[go_sem,a03,a00,hrf,hren]<;>rfl)<;>rfl
 ·rintro q F H1 ⟨i,rfl,hi,rfl,rfl⟩
  by_cases hlt:i<tb.length
  ·obtain⟨r,hrr⟩:∃r,tb[i]?=some r:=⟨_,z9e hlt⟩
   obtain⟨p,W,hp1,hp2,hW⟩:=a8f hA (a01 []) hrr;obtain⟨hrl,hasc⟩:=hr r (List.mem_of_getElem? hrr);have hwl:=a3k hW (a01 []);have hwf:=hW.refs;have hwren:∀π,ren π W=W:=λπ=>a0f π W hwf;have d1:(i:Int)<tb.length:=by omega
   have hw:=wI1 (n:=i) (by omega)
   (repeat first|simp only[ww]|(apply xa;simp+decide only[go_sem,d1,hp1,hp2,hwl];rfl;kernel_rfl))
   refine a0t kp52_3 (λq F H1=>∃(j:Nat) (last:Int),q=r.length-j∧j≤r.length∧F=[(1,.int .i64 n),(7,.int .i64 last),(21,A),(22,.int .i64 tb.length),(23,.int .i64 i),(27,W),(28,.int .i64 r.length),(29,.int .i64 j)]∧H1=[]∧Asc n last (r.drop j)) r.length ?_ ?_
   ·refine⟨_,_,?_,0,-1,rfl,Nat.zero_le _,rfl,rfl,hasc⟩
    (simp+decide only[go_sem,a03,a00,hrf,hren,hwf,hwren]<;>rfl)<;>rfl
   ·rintro q F H1 ⟨j,last,rfl,hj,rfl,rfl,ha⟩
    by_cases hjl:j<r.length
    ·obtain⟨v,hv⟩:∃v,r[j]?=some v:=⟨_,z9e hjl⟩
     obtain⟨p2,hq1,hq2⟩:=b25 hW (a01 []) hv;have hd:r.drop j=v::r.drop (j+1):=by rw[←List.getElem_cons_drop hjl,(List.getElem?_eq_some_iff.1 hv).2]
     rw[hd]at ha;obtain⟨a1,a2,a3⟩:=ha;have e1:(j:Int)<r.length:=by omega
     have e2:¬(v:Int)≤last:=by omega
     have e3:¬(n:Int)≤v:=by omega
     have hw2:=wI1 (n:=j) (by omega)
     (repeat first|simp only[ww]|(apply xa;simp+decide only[go_sem,e1,hq1,hq2,e2,e3,hw2];rfl;kernel_rfl))
     refine a0b (r.length-(j+1)) (by omega) ⟨_,_,?_,j+1,v,rfl,hjl,rfl,rfl,a3⟩
     (simp+decide only[go_sem,a03,a00,hrf,hren,hwf,hwren]<;>rfl)<;>rfl
    ·obtain rfl:j=r.length:=by omega
     have e1:¬(r.length:Int)<r.length:=by omega
     (repeat first|simp only[ww]|(apply xa;simp+decide only[go_sem,e1,hw];rfl;kernel_rfl))
     refine a0b (tb.length-(i+1)) (by omega) ⟨_,_,?_,i+1,rfl,hlt,rfl,rfl⟩
     (simp+decide only[go_sem,a03,a00,hrf,hren]<;>rfl)<;>rfl
  ·obtain rfl:i=tb.length:=by omega
   have d1:¬(tb.length:Int)<tb.length:=by omega
   (repeat first|simp only[ww]|(apply xa;simp+decide only[go_sem,d1];rfl;kernel_rfl))
   refine a3q (vs:=[.int .i64 0]) (r:=(.int .i64 0,[])) (by simp+decide only[go_sem]) ?_ rfl;rfl
theorem c3v{d:Bool}(H:a04)(tb:List (List Nat))(A:AV)(hA:TBv tb A)(ht:tb.length≤65536)(n:Nat)(hn:n≤4096)(hr:∀r∈tb,r.length<1000000∧Asc n (-1) r) :
 a0d L.env d (sem L.env Mf) (.func (.func 52) [] []) [A,.int .i64 n] H=some (.int .i64 0,H,[]):=
 a07 (by kernel_rfl) (by kernel_rfl) rfl (by simp[a0a,hA.refs,refs]) (c9p tb A hA ht n hn hr) rfl
theorem b0r(H:a04)(tb:List (List Nat))(A:AV)(hA:TBv tb A)(hs:c0e tb) :
 a0d L.env false (sem L.env Mf) (.func (.func 54) [] []) [A] H=some (.map H.length,H++[some (.uset (b8m tb tb.length))],[]):=by
 have hrf:=hA.refs;have hren:∀π,ren π A=A:=λπ=>a0f π A hrf;have hc:=a18 (sem L.env Mf 54) [A] H (σ:=[]) (by simp only[a0a,hrf,List.append_nil];rfl) rfl rfl (args':=[A]) (by simp[hren]) (H0:=[]) rfl (c4f tb A hA hs);refine b9u (by kernel_rfl) (by kernel_rfl) rfl (hc.trans ?_);simp only[a4w,ren,a0s,List.length_nil,List.drop_zero,List.map_cons,List.map_nil,Option.map_some,a0e];simp[Nat.blt];rfl
theorem c7a:sem L.env Mf 35 [.nilslice] []=some (.nilslice,[]):=by
 (refine sv Tryz.f35 ?_;simp only[Tryz.f35,gS])
 (repeat first|simp only[ww]|(apply xa;simp+decide only[go_sem];rfl;kernel_rfl))
 (apply fqb;simp+decide only[go_sem]<;>rfl)
theorem c2v(n:Nat)(rows:List (List AV))(hf:FlatR rows):sem L.env Mf 35 [.slice 0 0 n none] [some (.row 1 rows)]=some (.slice 0 0 n (some n),[some (.row 1 rows)]):=by
 have h1:=λπ=>a02 π hf
 (refine sv Tryz.f35 ?_;simp only[Tryz.f35,gS])
 (repeat first|simp only[ww]|(apply xa;simp+decide only[go_sem];rfl;kernel_rfl))
 (apply fqb;simp+decide only[go_sem,h1]<;>rfl)
theorem a5r{d:Bool}{H:a04}{b n:Nat}{rows:List (List AV)}(hf:FlatR rows)(hb:a01 H b=some (.row 1 rows)):a0d L.env d (sem L.env Mf) (.func (.func 35) [] []) [.slice b 0 n none] H=some (.slice b 0 n (some n),H,[b]):=by have h:=a2z (E:=L.env) (draw:=d) (call:=sem L.env Mf) (g:=35) (fs:=[]) (cs:=[]) (ar:=[.slice b 0 n none]) (H:=H) (b:=b) (by kernel_rfl) (by kernel_rfl) rfl hb (a0m hf) (FlatO.row hf) rfl (args':=[AV.slice 0 0 n none]) (by simp only[List.nil_append,List.append_nil,List.map_cons,List.map_nil,a27]) (c2v n rows hf) (FlatO.row hf) (a85 b 0 _ n _);rw[a54 hb]at h;exact h
theorem c5r:sem L.env Mf 56 [.nilslice] []=some (.tuple [],[]):=by
 have h0:a2p [] = .tuple []:=rfl
 (refine sv Tryz.f56 ?_;simp only[Tryz.f56,gS])
 (repeat first|simp only[ww]|(apply xa;simp+decide only[go_sem];rfl;kernel_rfl))
 refine a0t kp56_0 (λN F H=>F=[(0,.nilslice),(2,.int .i64 0),(3,.int .i64 (-1))]∧H=[]) 1 ?_ ?_
 ·refine⟨_,_,?_,rfl,rfl⟩
  (simp+decide only[go_sem,a03,a00]<;>rfl)<;>rfl
 ·rintro N F H ⟨rfl,rfl⟩
  (repeat first|simp only[ww]|(apply xa;simp+decide only[go_sem];rfl;kernel_rfl))
  (apply fqb;simp+decide only[go_sem,h0]<;>rfl)
theorem d00(n:Nat)(c:Option Nat)(d:Array Int)(rest:List (List AV))(hrest:FlatR rest)(hn:n=d.size)(hn0:0<n)(hn1:n≤1000) :
 sem L.env Mf 56 [.slice 0 0 n c] [some (.row 1 (rwA d++rest))]=some (.tuple [],[some (.row 1 (rwA (reverseLoop 0 (n-1) d)++rest))]):=by
 have h0:a2p [] = .tuple []:=rfl;have w1:IntKind.i64.wrap ((n:Int)-1)=((n-1:Nat):Int):=by rw[w64 (by omega) (by omega)];omega
 have hE:∀(i j:Nat) (d:Array Int),reverseLoop i j d=if i<j then reverseLoop (i+1) (j-1) (swp d i j)else d:=λi j d=>by conv=>lhs;unfold reverseLoop
 have f00:=a06 (d:=d) hrest
 (refine sv Tryz.f56 ?_;simp only[Tryz.f56,gS])
 (repeat first|simp only[ww]|(apply xa;simp+decide only[go_sem,w1];rfl;kernel_rfl))
 refine a0t kp56_0 (λN F H=>∃(i j:Nat) (e:Array Int),N=j+1-i∧e.size=n∧F=[(0,.slice 0 0 n c),(2,.int .i64 i),(3,.int .i64 j)]∧H=[some (.row 1 (rwA e++rest))]∧reverseLoop i j e=reverseLoop 0 (n-1) d∧j<n∧i≤n) (n-1+1-0) ?_ ?_
 ·refine⟨_,_,?_,0,n-1,d,rfl,hn.symm,rfl,rfl,rfl,by omega,by omega⟩
  (simp+decide only[go_sem,a03,a00,a05 f00,a02 _ f00]<;>rfl)<;>rfl
 ·rintro N F H ⟨i,j,e,rfl,he,rfl,rfl,hT,hj,hi⟩
  have f:=a06 (d:=e) hrest;rw[hE]at hT;by_cases hij:i<j
  ·rw[if_pos hij]at hT;have d1:(i:Int)<j:=by omega
   have w2:=wI1 (n:=i) (by omega);have w3:IntKind.i64.wrap ((j:Int)-1)=((j-1:Nat):Int):=by rw[w64 (by omega) (by omega)];omega
   have hl:n≤(rwA e++rest).length:=by rw[List.length_append,a15];omega
   have hls2:∀i x,((rwA e++rest).set i x).length=(rwA e++rest).length:=λi x=>List.length_set;have k0:i<n:=by omega
   have g0:=a0c (d:=e) (rest:=rest) (i:=i) (by omega);have g1:=a0c (d:=e) (rest:=rest) (i:=j) (by omega);have hs:=a1z (d:=e) (rest:=rest) (i:=i) (j:=j) (by omega) (by omega);obtain⟨y,hg3⟩:=a1e (d:=e) (rest:=rest) (i:=i) (j:=j) (x:=e[j]!) (by omega) (by omega);have f2:=a06 (d:=swp e i j) hrest
   (repeat first|simp only[ww]|(apply xa;simp+decide only[go_sem,d1,w2,w3,hl,hls2,k0,hj,g0,g1,hg3,hs];rfl;kernel_rfl))
   refine a0b (j-1+1-(i+1)) (by omega) ⟨_,_,?_,i+1,j-1,_,rfl,by rw[swp_size];exact he,rfl,rfl,hT,by omega,by omega⟩
   (simp+decide only[go_sem,a03,a00,a05 f2,a02 _ f2]<;>rfl)<;>rfl
  ·rw[if_neg hij]at hT;have d1:¬(i:Int)<j:=by omega
   (repeat first|simp only[ww]|(apply xa;simp+decide only[go_sem,d1];rfl;kernel_rfl))
   rw[←hT]
   (apply fqb;simp+decide only[go_sem,h0,a02 _ f]<;>rfl)
def cs0(n i:Nat):List (Option (List Int)):=(List.range n).map λj=>if j<i then some []else none
theorem c1j(n i:Nat):(cs0 n i).length=n:=by simp[cs0]
theorem d1d(n:Nat):List.replicate n none=cs0 n 0:=by
 unfold cs0;apply List.ext_getElem?;intro j;rw[List.getElem?_replicate,List.getElem?_map];by_cases hl:j<n
 ·rw[List.getElem?_range hl];simp[hl]
 ·simp[hl]
theorem d75{n i:Nat}(h:i<n):(cs0 n i)[i]?=some none:=by unfold cs0;rw[List.getElem?_map,List.getElem?_range h];simp
theorem d1e{n i:Nat}:(cs0 n i).set i (some [])=cs0 n (i+1):=by
 apply List.ext_getElem?;intro j;unfold cs0;rw[List.getElem?_set,List.getElem?_map,List.getElem?_map,List.length_map,List.length_range];by_cases h:i=j
 ·subst h;by_cases hl:i<n
  ·simp[hl]
  ·simp[hl]
 ·rw[if_neg h];by_cases hl:j<n
  ·rw[List.getElem?_range hl];simp only[Option.map_some];by_cases h1:j<i
   ·rw[if_pos h1,if_pos (by omega)]
   ·rw[if_neg h1,if_neg (by omega)]
  ·simp[hl]
def d1q(tb:List (List Nat))(i t:Nat):List Int:=b44 i λk=>(a1j tb k).contains t
theorem c8a{tb:List (List Nat)}{i t:Nat}{z:Int}(h:z∈d1q tb i t):z<i:=by obtain⟨k,rfl,h1,_⟩:=b1m.1 h;omega
theorem d1p{tb:List (List Nat)}{i t:Nat}:(d1q tb i t).contains (i:Int)=false:=by
 cases h:(d1q tb i t).contains (i:Int)with
 |false=>rfl
 |true=>have:=c8a (List.contains_iff_mem.1 h);omega
def b9p(tb:List (List Nat))(i:Nat)(r:List Nat)(k t:Nat):List Int:=d1q tb i t++if(r.take k).contains t then[(i:Int)]else[]
theorem c8b(tb:List (List Nat))(i:Nat)(r:List Nat)(t:Nat):b9p tb i r 0 t=d1q tb i t:=by simp[b9p]
theorem d1s{tb:List (List Nat)}{i:Nat}{r:List Nat}(h:tb[i]?=some r)(t:Nat):b9p tb i r r.length t=d1q tb (i+1) t:=by unfold b9p d1q;rw[b30,c62 h,List.take_length]
def cs2(n:Nat)(f:Nat→List Int):List (Option (List Int)):=((List.range n).map f).map some
theorem b3p(n:Nat)(f:Nat→List Int):(cs2 n f).length=n:=by simp[cs2]
theorem d74{n t:Nat}(f:Nat→List Int)(h:t<n):(cs2 n f)[t]?=some (some (f t)):=by unfold cs2;rw[List.getElem?_map,List.getElem?_map,List.getElem?_range h];rfl
theorem b9l{n:Nat}{f g:Nat→List Int}(h:∀t,t<n→f t=g t):cs2 n f=cs2 n g:=by
 unfold cs2
 congr 1
 exact List.map_congr_left λt ht=>h t (List.mem_range.1 ht)
theorem d73{n t:Nat}{f g:Nat→List Int}{s:List Int}(h1:g t=s)(h2:∀u,u≠t→f u=g u):(cs2 n f).set t (some s)=cs2 n g:=by
 apply List.ext_getElem?;intro j;unfold cs2;rw[List.getElem?_set];simp only[List.getElem?_map,List.length_map,List.length_range];by_cases h:t=j
 ·subst h;by_cases hl:t<n
  ·simp[hl,h1]
  ·simp[hl]
 ·rw[if_neg h];by_cases hl:j<n
  ·rw[List.getElem?_range hl];simp only[Option.map_some,h2 j (Ne.symm h)]
  ·simp[hl]
theorem d76(n:Nat):cs0 n n=cs2 n λ_=>[]:=by unfold cs0 cs2;rw[List.map_map];refine List.map_congr_left λt ht=>?_;simp[List.mem_range.1 ht]
theorem d1r{tb:List (List Nat)}{i:Nat}{r:List Nat}{k v:Nat}(hv:r[k]?=some v):(bif (b9p tb i r k v).contains (i:Int)then b9p tb i r k v else c7d (i:Int) (b9p tb i r k v))=b9p tb i r (k+1) v:=by
 have ht:r.take (k+1)=r.take k++[v]:=by rw[List.take_add_one,hv];rfl
 have h2:(r.take (k+1)).contains v=true:=by rw[List.contains_iff_mem,ht];simp
 unfold b9p;rw[h2];by_cases h:(r.take k).contains v=true
 ·rw[h];have h3:(d1q tb i v++[(i:Int)]).contains (i:Int)=true:=by rw[List.contains_iff_mem];simp
  simp only[if_true,h3,cond_true]
 ·have h:(r.take k).contains v=false:=by simpa using h
  rw[h];simp only[Bool.false_eq_true,if_false,List.append_nil,d1p,cond_false,if_true];exact b2z λy hy=>c8a hy
theorem d79{tb:List (List Nat)}{i:Nat}{r:List Nat}{k v u:Nat}(hv:r[k]?=some v)(h:u≠v):b9p tb i r k u=b9p tb i r (k+1) u:=by
 have ht:r.take (k+1)=r.take k++[v]:=by rw[List.take_add_one,hv];rfl
 unfold b9p;have:(r.take (k+1)).contains u=(r.take k).contains u:=by rw[Bool.eq_iff_iff,List.contains_iff_mem,List.contains_iff_mem,ht];simp[h]
 rw[this]
def a4j(tb:List (List Nat))(n:Nat):AV:=.islice ((List.range n).map λt=>[.iset (c0g tb t)]) (some n)
theorem c5m(tb:List (List Nat))(A:AV)(hA:TBv tb A)(hs:c0e tb)(n:Nat)(hn:n≤4096)(hr:∀r∈tb,∀t∈r,t<n):sem L.env Mf 53 [A,.int .i64 n] []=some (a4j tb n,[]):=by
 have hrf:=hA.refs;have hren:∀π,ren π A=A:=λπ=>a0f π A hrf;have hrm:n≤1000000000:=by omega
 suffices hs:∃r:AV×a04,(r=(a4j tb n,[]))∧sem L.env Mf 53 [A,.int .i64 n] []=some r by obtain⟨r,rfl,h3⟩:=hs;exact h3
 (refine svE Tryz.f53 ?_;simp only[Tryz.f53,gS])
 (repeat first|simp only[ww]|(apply xa;simp+decide only[go_sem,hrm];rfl;kernel_rfl))
 refine a0t kp53_0 (λq F H1=>∃i b ids,q=n-i∧i≤n∧F=[(0,A),(5,.slice b 0 n (some n)),(14,.int .i64 n),(15,.int .i64 i)]∧Sts H1 b ids (cs0 n i)) n ?_ ?_
 ·refine a7e (c9y _ n 0 rfl) ?_ (by simp;omega) ?_
  ·exact .inl (by simp+decide only[go_sem,hrf])
  ·intro π b' ids' H1 hb hT;rw[d1d]at hT;refine⟨0,b',ids',rfl,Nat.zero_le _,?_,hT⟩;simp+decide only[go_sem,hb,hren]<;>rfl
 ·rintro q F H ⟨i,b,ids,rfl,hi,rfl,hT⟩
  by_cases hlt:i<n
  ·have c1:(i:Int)<n:=by omega
   have hw:=wI1 (n:=i) (by omega);have hbl:=a0l hT.top;have htop:=hT.top;have hrl:(a5c ids (cs0 n i)).length=n:=by rw[a8i,c1j]
   have hgl:i<(a5c ids (cs0 n i)).length:=by omega
   have hN:=hT.new0 (s:=[]) (L:=[]) (j:=i) (by rw[c1j];exact hlt);rw[d1e]at hN;have hget:=b2a (ids:=ids) (d75 hlt);simp only[mpV]at hget
   (repeat first|simp only[ww]|(apply xa;simp+decide only[go_sem,c1,hw,hlt,hbl,htop,hrl,hget,a1r,a1s,a0x,a55,a3n,a2m,List.append_assoc,List.cons_append,List.nil_append];rfl;kernel_rfl))
   refine a0b (n-(i+1)) (by omega) ?_;refine a7e hN ?_ (by rw[c1j];omega) ?_
   ·exact .inl (by simp+decide only[go_sem,hrf])
   ·intro π b' ids' H1 hb hT;refine⟨i+1,b',ids',rfl,hlt,?_,hT⟩;simp+decide only[go_sem,hb,hren]<;>rfl
  ·obtain rfl:i=n:=by omega
   have c1:¬(i:Int)<i:=by omega
   have hlen:=a8e hA (a01 H);rw[d76]at hT
   (repeat first|simp only[ww]|(apply xa;simp+decide only[go_sem,c1,hlen];rfl;kernel_rfl))
   refine a0t kp53_2 (λq F H1=>∃k b ids,q=tb.length-k∧k≤tb.length∧F=[(5,.slice b 0 i (some i)),(23,A),(24,.int .i64 tb.length),(25,.int .i64 k)]∧Sts H1 b ids (cs2 i (d1q tb k))) tb.length ?_ ?_
   ·refine a7e hT ?_ (by rw[b3p];omega) ?_
    ·exact .inl (by simp+decide only[go_sem,hrf])
    ·intro π b' ids' H1 hb hT;refine⟨0,b',ids',rfl,Nat.zero_le _,?_,hT⟩;simp+decide only[go_sem,hb,hren]<;>rfl
   ·rintro q F H ⟨k,b,ids,rfl,hk,rfl,hT⟩
    by_cases hkl:k<tb.length
    ·obtain⟨r,hrr⟩:∃r,tb[k]?=some r:=⟨_,z9e hkl⟩
     obtain⟨p,W,hp1,hp2,hW⟩:=a8f hA (a01 H) hrr;have hwl:=a3k hW (a01 H);have hwf:=hW.refs;have hwren:∀π,ren π W=W:=λπ=>a0f π W hwf;have hrm:=List.mem_of_getElem? hrr;have c2:(k:Int)<tb.length:=by omega
     have hw:=wI1 (n:=k) (by have:=hs.1;omega)
     (repeat first|simp only[ww]|(apply xa;simp+decide only[go_sem,c2,hp1,hp2,hwl];rfl;kernel_rfl))
     refine a0t kp53_4 (λq F H1=>∃j b ids,q=r.length-j∧j≤r.length∧F=[(5,.slice b 0 i (some i)),(7,.int .i64 k),(23,A),(24,.int .i64 tb.length),(25,.int .i64 k),(30,W),(31,.int .i64 r.length),(32,.int .i64 j)]∧Sts H1 b ids (cs2 i (b9p tb k r j))) r.length ?_ ?_
     ·refine a7e hT ?_ (by rw[b3p];omega) ?_
      ·exact .inl (by simp+decide only[go_sem,hrf,hwf])
      ·intro π b' ids' H1 hb hT;rw[←b9l λt _=>c8b tb k r t]at hT;refine⟨0,b',ids',rfl,Nat.zero_le _,?_,hT⟩;simp+decide only[go_sem,hb,hren,hwren]<;>rfl
     ·rintro q F H ⟨j,b,ids,rfl,hj,rfl,hT⟩
      by_cases hjl:j<r.length
      ·obtain⟨v,hv⟩:∃v,r[j]?=some v:=⟨_,z9e hjl⟩
       obtain⟨p2,hq1,hq2⟩:=b25 hW (a01 H) hv;have hvn:v<i:=hr r hrm v (List.mem_of_getElem? hv);have c3:(j:Int)<r.length:=by omega
       have hw3:=wI1 (n:=j) (by have:=hs.2 r hrm;omega);have htop:=hT.top;have hbl:=a0l htop;have hcg:=d74 (n:=i) (b9p tb k r j) hvn;have hget:=b2a (ids:=ids) hcg;simp only[mpV]at hget;have hsub:=(hT.sub v _ hcg).1;have hrl:(a5c ids (cs2 i (b9p tb k r j))).length=i:=by rw[a8i,b3p]
       have hil:=a0l hsub;have hy:=d1r (tb:=tb) (i:=k) hv;have hN:=hT.put (t:=b9p tb k r (j+1) v) hcg;rw[d73 (g:=b9p tb k r (j+1)) rfl λu hu=>d79 hv hu]at hN
       (repeat first|simp only[ww]|(apply xa;simp+decide only[go_sem,c3,hq1,hq2,hw3,htop,hbl,hvn,hget,hsub,hrl,hy,hil];rfl;kernel_rfl))
       refine a0b (r.length-(j+1)) (by omega) ?_;refine a7e hN ?_ (by rw[b3p];omega) ?_
       ·exact .inl (by simp+decide only[go_sem,hrf,hwf])
       ·intro π b' ids' H1 hb hT;refine⟨j+1,b',ids',rfl,hjl,?_,hT⟩;simp+decide only[go_sem,hb,hren,hwren]<;>rfl
      ·obtain rfl:j=r.length:=by omega
       have c3:¬(r.length:Int)<r.length:=by omega
       rw[b9l λt _=>d1s hrr t]at hT
       (repeat first|simp only[ww]|(apply xa;simp+decide only[go_sem,c3,hw];rfl;kernel_rfl))
       refine a0b (tb.length-(k+1)) (by omega) ?_;refine a7e hT ?_ (by rw[b3p];omega) ?_
       ·exact .inl (by simp+decide only[go_sem,hrf])
       ·intro π b' ids' H1 hb hT;refine⟨k+1,b',ids',rfl,hkl,?_,hT⟩;simp+decide only[go_sem,hb,hren]<;>rfl
    ·obtain rfl:k=tb.length:=by omega
     have c2:¬(tb.length:Int)<tb.length:=by omega
     have hz:=hT.frz (some i);rw[List.length_map,List.length_range,List.map_map]at hz
     (repeat first|simp only[ww]|(apply xa;simp+decide only[go_sem,c2];rfl;kernel_rfl))
     refine a32 (vs:=[.slice b 0 i (some i)]) (r:=(_,[])) (by simp+decide only[go_sem]) ?_ rfl;show a0j false 0 (.slice b 0 i (some i)) H=_;rw[b9f,hz];rfl
theorem a7r(l:List Nat):FlatR (l.map a12):=FlatR.map λ_=>rfl
theorem a2c(l:List Nat):(l.map a12).flatMap a0a=[]:=a05 (a7r l)
theorem a5m(π:Nat→Option Nat)(l:List Nat):(l.map a12).map (λr=>r.map (ren π))=l.map a12:=a02 π (a7r l)
theorem e4v{m:Nat}{d:AV→Option AV}(l:List Nat):b39 m d (l.map a12)=some (l.map a12):=a3p m d (a7r l)
def lsV:List Nat→AV|[]=>.nilslice|a::r=>.islice ((a::r).map a12) (some (r.length+1))
theorem a6j(l:List Nat):RV l (lsV l):=by
 cases l with
 |nil=>exact .nil rfl
 |cons a r=>exact .imm _
theorem a2n(l:List Nat):refs (lsV l)=[]:=(a6j l).refs
theorem b4o(tb:List (List Nat))(n:Nat):refs (a4j tb n)=[]:=by rfl
theorem b89(π:Nat→Option Nat)(tb:List (List Nat))(n:Nat):ren π (a4j tb n)=a4j tb n:=a0f π _ rfl
theorem b64{tb:List (List Nat)}{n t:Nat}(h:t<n):((List.range n).map λt=>[AV.iset (c0g tb t)])[t]?=some [.iset (c0g tb t)]:=by rw[List.getElem?_map,List.getElem?_range h];rfl
theorem b1z{d:Bool}(H:a04){tb:List (List Nat)}{A:AV}(hA:TBv tb A)(hs:c0e tb){n:Nat}(hn:n≤4096)(hr:∀r∈tb,∀t∈r,t<n) :
 a0d L.env d (sem L.env Mf) (.func (.func 53) [] []) [A,.int .i64 n] H=some (a4j tb n,H,[]):=
 a07 (by kernel_rfl) (by kernel_rfl) rfl (by simp[a0a,hA.refs,refs]) (c5m tb A hA hs n hn hr) rfl
theorem c0n{d:Bool}(H:a04):a0d L.env d (sem L.env Mf) (.func (.func 56) [] []) [.nilslice] H=some (.tuple [],H,[]):=a07 (by kernel_rfl) (by kernel_rfl) rfl rfl c5r rfl
theorem c3x{d:Bool}{H:a04}{b:Nat}{l:List Nat}(c:Option Nat)(h0:0<l.length)(h1:l.length≤1000)(hb:a01 H b=some (.row 1 (l.map a12))) :
 a0d L.env d (sem L.env Mf) (.func (.func 56) [] []) [.slice b 0 l.length c] H=some (.tuple [],H.set b (some (.row 1 (l.reverse.map a12))),[b]):=by
 have h:=d00 l.length c (arN l) [] FlatR.nil (c3p l).symm h0 h1;rw[List.append_nil,List.append_nil,c5z,d57]at h;exact a2z (E:=L.env) (draw:=d) (call:=sem L.env Mf) (g:=56) (fs:=[]) (cs:=[]) (ar:=[.slice b 0 l.length c]) (H:=H) (b:=b) (by kernel_rfl) (by kernel_rfl) rfl hb (a0m (a7r l)) (FlatO.row (a7r l)) rfl (args':=[AV.slice 0 0 l.length c]) (by simp only[List.nil_append,List.append_nil,List.map_cons,List.map_nil,a27]) h (FlatO.row (a7r _)) rfl
theorem a7o{d:Bool}(H:a04):a0d L.env d (sem L.env Mf) (.func (.func 35) [] []) [.nilslice] H=some (.nilslice,H,[]):=a07 (by kernel_rfl) (by kernel_rfl) rfl rfl c7a rfl
theorem b78(tb:List (List Nat))(t:Nat):(c0g tb t).length≤tb.length:=c2z _ _
theorem b8l(tb:List (List Nat)):b8m tb tb.length=a4o tb []:=(d0l tb).symm
theorem c0k(l:List Nat):List.take l.length (l.map a12)=l.map a12:=List.take_of_length_le (by simp)
theorem c7u{H:a04}{b:Nat}(a:Nat)(t:List Nat)(e:Int)(hb:a01 H b=some (.row 1 ((a::t).map a12))):a0j false 0 (.tuple [.slice b 0 (t.length+1) (some (t.length+1)),.int .i64 e]) H=some (.tuple [lsV (a::t),.int .i64 e],[]):=by simp+decide only[go_sem,hb,List.length_cons,List.length_map,List.map_cons,lsV,e4v,c0k]<;>rfl
structure Tab(tb:List (List Nat))(n:Nat)(A:AV):Prop where
 val:TBv tb A
 rows:tb.length≤1000
 tests:n≤1000
 asc:∀r∈tb,r.length<1000000∧Asc n (-1) r
theorem Tab.small{tb:List (List Nat)}{n:Nat}{A:AV}(h:Tab tb n A):c0e tb:=⟨by have:=h.rows;omega,λr hr=>(h.asc r hr).1⟩
theorem d47{n:Nat}:∀{r:List Nat} {z:Int},Asc n z r→∀t∈r,t<n
 | [],_,_,_,h=>by cases h
 |x::r,z,h,t,ht=>by
  obtain⟨h1,h2,h3⟩:=h;rcases List.mem_cons.1 ht with rfl|ht
  ·omega
  ·exact d47 h3 t ht
theorem Tab.lt{tb:List (List Nat)}{n:Nat}{A:AV}(h:Tab tb n A):∀r∈tb,∀t∈r,t<n:=λr hr t ht=>d47 (h.asc r hr).2 t ht
theorem Tab.valid{tb:List (List Nat)}{n:Nat}{A:AV}(h:Tab tb n A){d:Bool}(H:a04):a0d L.env d (sem L.env Mf) (.func (.func 52) [] []) [A,.int .i64 n] H=some (.int .i64 0,H,[]):=c3v H tb A h.val (by have:=h.rows;omega) n (by have:=h.tests;omega) h.asc
theorem c44{tb:List (List Nat)}{n:Nat}{A:AV}(h:Tab tb n A):sem L.env Mf 22 [A,.int .i64 n] []=some (.tuple [lsV (later tb n []),.int .i64 0],[]):=by
 have hs:=h.small;have hn:=h.tests;have hva:=h.valid (d:=false) [];have htu:=b1z (d:=false) [] h.val hs (n:=n) (by omega) h.lt;have hmi:=b0r [] tb A h.val hs;rw[b8l]at hmi;have hw0:IntKind.i64.wrap ((n:Int)-1)=(n:Int)-1:=w64 (by omega) (by omega);have hsr:=b4o tb n;have hse:=λπ=>b89 π tb n
 suffices hs:∃r:AV×a04,(r=(.tuple [lsV (later tb n []),.int .i64 0],[]))∧sem L.env Mf 22 [A,.int .i64 n] []=some r by obtain⟨r,rfl,h3⟩:=hs;exact h3
 (refine svE Tryz.f22 ?_;simp only[Tryz.f22,gS])
 (repeat first|simp only[ww]|(apply xa;simp+decide only[go_sem,hva,htu,hmi,hw0];rfl;kernel_rfl))
 refine a0t kp22_0 (λq F H1=>∃(s:Nat) (x:Int) (acc o:List Nat),q=s∧s≤n∧x=(s:Int)-1∧F=[(7,a4j tb n),(8,.map 0),(9,grV 1 (o.map a12)),(10,.int .i64 x)]∧H1=some (.uset (a4o tb acc))::grH 1 (o.map a12)∧o=acc.reverse∧acc.length+s≤n∧later tb s acc=later tb n []) n ?_ ?_
 ·refine⟨_,_,?_,n,_,[],[],rfl,Nat.le_refl _,rfl,rfl,rfl,rfl,by simp,rfl⟩
  (simp+decide only[go_sem,a03,a00,hsr,hse]<;>rfl)<;>rfl
 ·rintro q F H1 ⟨s,x,acc,o,rfl,hsn,hx,rfl,rfl,ho,hal,hlat⟩
  have hol:o.length+q≤n:=by rw[ho,List.length_reverse];exact hal
  cases q with
  |zero=>
   have c1:¬(0:Int)≤x:=by omega
   have hacc:acc=later tb n []:=hlat;have hor:o.reverse=later tb n []:=by rw[ho,List.reverse_reverse,hacc]
   cases o with
   |nil=>
    rw[←hor];have hrv:=λH=>c0n (d:=false) H;have hcl:=λH=>a7o (d:=false) H;simp only[List.map_nil,a1u,a2q]
    (repeat first|simp only[ww]|(apply xa;simp+decide only[go_sem,c1,hrv,hcl];rfl;kernel_rfl))
    refine a32 (vs:=[.nilslice,.int .i64 0]) (r:=(_,_)) (by simp+decide only[go_sem]) ?_ rfl;simp+decide only[go_sem,a0j]<;>rfl
   |cons a r=>
    have hrv:=c3x (d:=false) (H:=[some (.uset (a4o tb acc)),some (.row 1 ((a::r).map a12))]) (b:=1) (l:=a::r) none (by simp) (by have h2:=hol;simp only[List.length_cons]at h2;omega) rfl;have hcl:=a5r (d:=false) (H:=[some (.uset (a4o tb acc)),some (.row 1 (((a::r).reverse).map a12))]) (b:=1) (n:=r.length+1) (a7r _) rfl;rw[←hor];simp only[List.map_cons,List.length_cons,List.set_cons_succ,List.set_cons_zero,a12]at hrv hcl;obtain⟨b,t,hbt⟩:∃b t,(a::r).reverse=b::t:=by
     cases hh:(a::r).reverse with
     |nil=>simp at hh
     |cons b t=>exact⟨b,t,rfl⟩
    have hbl:t.length=r.length:=by have:=congrArg List.length hbt;simp at this;omega
    rw[hbt]at hrv hcl⊢;simp only[List.map_cons,a0r,a0y,List.length_map];simp only[List.map_cons,a12]at hrv hcl
    (repeat first|simp only[ww]|(apply xa;simp+decide only[go_sem,c1,hrv,hcl];rfl;kernel_rfl))
    refine a32 (vs:=[.slice 1 0 (r.length+1) (some (r.length+1)),.int .i64 0]) (r:=(_,_)) (by simp+decide only[go_sem]) ?_ rfl;rw[←hbl];exact c7u b t 0 rfl
  |succ t=>
   obtain rfl:x=(t:Int):=by omega
   have c1:(0:Int)≤(t:Int):=by omega
   have hw:IntKind.i64.wrap ((t:Int)-1)=(t:Int)-1:=w64 (by omega) (by omega);have hg:=b64 (tb:=tb) (n:=n) (t:=t) (by omega);have htn:t<n:=by omega
   have hdr:=λH b hb=>b9j (d:=false) H b (a4o tb acc) (c0g tb t) hb (b03 _ _) (by have:=b78 tb t;have:=h.rows;omega);have e1:drS (a4o tb acc) (c0g tb t)=a4o tb (t::acc):=b2t λr=>b56 r acc t;have e2:drN (a4o tb acc) (c0g tb t)=a74 tb acc t:=rfl;rw[e1,e2]at hdr;have hlat2:later tb t (if 0<a74 tb acc t then t::acc else acc)=later tb n []:=hlat;by_cases h0:0<a74 tb acc t
   ·rw[if_pos h0]at hlat2;have c2:(0:Int)<(a74 tb acc t:Int):=by omega
    cases o with
    |nil=>
     have hdr:=hdr [some (.uset (a4o tb acc))] 0 rfl;simp only[List.map_nil,a1u,a2q];unfold a4j
     (repeat first|simp only[ww]|(apply xa;simp+decide only[go_sem,c1,hg,htn,hdr,c2,hw];rfl;kernel_rfl))
     refine a0b t (by omega) ⟨_,_,?_,t,_,t::acc,[t],rfl,by omega,rfl,rfl,rfl,?_,by simp only[List.length_cons];omega,hlat2⟩
     ·(simp+decide only[go_sem,a03,a00,List.map_nil,List.map_cons,a0r,a0y,List.length_nil,hse]<;>rfl)<;>rfl
     ·rw[List.reverse_cons,←ho];rfl
    |cons a r=>
     have hdr:=hdr [some (.uset (a4o tb acc)),some (.row 1 ((a::r).map a12))] 0 rfl;simp only[List.map_cons,a12]at hdr;simp only[List.map_cons,a0r,a0y,List.length_map];have hrm:r.length+1+1≤1000000000:=by simp only[List.length_cons]at hol;omega
     unfold a4j
     (repeat first|simp only[ww]|(apply xa;simp+decide only[go_sem,c1,hg,htn,hdr,c2,hw,hrm];rfl;kernel_rfl))
     refine a0b t (by omega) ⟨_,_,?_,t,_,t::acc,a::r++[t],rfl,by omega,rfl,rfl,rfl,?_,by simp only[List.length_cons];omega,hlat2⟩
     ·(simp+decide only[go_sem,a03,a00,List.cons_append,List.map_cons,List.map_append,List.map_nil,a0r,a0y,a2c,a5m,List.length_cons,List.length_map,List.length_append,List.length_nil,hse]<;>rfl)<;>rfl
     ·rw[List.reverse_cons,←ho]
   ·rw[if_neg h0]at hlat2;have h00:a74 tb acc t=0:=by omega
    have c2:¬(0:Int)<(a74 tb acc t:Int):=by omega
    rw[c70 h00]at hdr;cases o with
    |nil=>
     have hdr:=hdr [some (.uset (a4o tb acc))] 0 rfl;simp only[List.map_nil,a1u,a2q];unfold a4j
     (repeat first|simp only[ww]|(apply xa;simp+decide only[go_sem,c1,hg,htn,hdr,c2,hw];rfl;kernel_rfl))
     refine a0b t (by omega) ⟨_,_,?_,t,_,acc,[],rfl,by omega,rfl,rfl,rfl,ho,by omega,hlat2⟩
     (simp+decide only[go_sem,a03,a00,List.map_nil,a1u,a2q,hse]<;>rfl)<;>rfl
    |cons a r=>
     have hdr:=hdr [some (.uset (a4o tb acc)),some (.row 1 ((a::r).map a12))] 0 rfl;simp only[List.map_cons,a12]at hdr;simp only[List.map_cons,a0r,a0y,List.length_map];unfold a4j
     (repeat first|simp only[ww]|(apply xa;simp+decide only[go_sem,c1,hg,htn,hdr,c2,hw];rfl;kernel_rfl))
     refine a0b t (by omega) ⟨_,_,?_,t,_,acc,a::r,rfl,by omega,rfl,rfl,rfl,ho,by omega,hlat2⟩
     (simp+decide only[go_sem,a03,a00,List.map_cons,a0r,a0y,a2c,a5m,List.length_map,hse]<;>rfl)<;>rfl
theorem c7k{tb:List (List Nat)}{n:Nat}{A:AV}(h:Tab tb n A):∃r:AV×a04,(∃l,GSel tb n l∧r=(.tuple [lsV l,.int .i64 0],[]))∧sem L.env Mf 23 [A,.int .i64 n] []=some r:=by
 have hs:=h.small;have hn:=h.tests;have hrw:=h.rows;have hva:=h.valid (d:=false) [];have htu:=b1z (d:=false) [] h.val hs (n:=n) (by omega) h.lt;have hmi:=b0r [] tb A h.val hs;rw[b8l]at hmi;have hsr:=b4o tb n;have hse:=λπ=>b89 π tb n
 (refine svE Tryz.f23 ?_;simp only[Tryz.f23,gS])
 (repeat first|simp only[ww]|(apply xa;simp+decide only[go_sem,hva,htu,hmi];rfl;kernel_rfl))
 refine a0t kp23_0 (λq F H1=>∃(k:Nat) (acc:List Nat) (O:AV) (G:a04),q=tb.length-k∧acc=b48 tb n k∧(∀j,j<k→a4g tb (b48 tb n j)=false)∧F=[(7,a4j tb n),(8,.map 0),(9,O)]∧H1=some (.uset (a4o tb acc))::G∧((acc=[]∧O = .nilslice∧G=[])∨(acc≠[]∧O = .slice 1 0 acc.length none∧G=[some (.row 1 (acc.map a12))]))) tb.length ?_ ?_
 ·refine⟨_,_,?_,0,[],.nilslice,[],rfl,rfl,λj hj=>by omega,rfl,rfl,.inl ⟨rfl,rfl,rfl⟩⟩
  (simp+decide only[go_sem,a03,a00,hsr,hse]<;>rfl)<;>rfl
 ·rintro q F H1 ⟨k,acc,O,G,rfl,hacc,hk,rfl,rfl,hGO⟩
  have hall:=b6z tb n k;rw[←hacc]at hall;by_cases hc:a4g tb acc=true
  ·have hl0:=(b8q tb acc).2 hc;have hS:GSel tb n acc:=⟨k,hacc,hc,hk⟩
   rcases hGO with ⟨hk0,rfl,rfl⟩|⟨hk0,rfl,rfl⟩
   ·subst hk0;have hcl:=λH=>a7o (d:=false) H
    (repeat first|simp only[ww]|(apply xa;simp+decide only[go_sem,hl0,hcl];rfl;kernel_rfl))
    refine a32 (vs:=[.nilslice,.int .i64 0]) (r:=(_,_)) (by simp+decide only[go_sem]) ?_ ⟨[],hS,rfl⟩;simp+decide only[go_sem,a0j]<;>rfl
   ·cases acc with
    |nil=>exact absurd rfl hk0
    |cons a r=>
     have hcl:=a5r (d:=false) (H:=[some (.uset (a4o tb (a::r))),some (.row 1 ((a::r).map a12))]) (b:=1) (n:=r.length+1) (a7r _) rfl;simp only[List.map_cons,a12]at hcl
     (repeat first|simp only[ww]|(apply xa;simp+decide only[go_sem,hl0,hcl,List.map_cons,List.length_cons];rfl;kernel_rfl))
     refine a32 (vs:=[.slice 1 0 (r.length+1) (some (r.length+1)),.int .i64 0]) (r:=(_,_)) (by simp+decide only[go_sem]) ?_ ⟨a::r,hS,rfl⟩;exact c7u a r 0 rfl
  ·have hc:a4g tb acc=false:=by simpa using hc
   have hl0:(0:Int)<((a4o tb acc).length:Int):=by
    have:=(b8q tb acc).1;by_cases h0:(a4o tb acc).length=0
    ·rw[this h0]at hc;cases hc
    ·omega
   obtain⟨hb1,hb2⟩:=a7n h.lt hc;have hk1:∀j,j<k+1→a4g tb (b48 tb n j)=false:=by
    intro j hj;rcases Nat.lt_succ_iff_lt_or_eq.1 hj with h1|rfl
    ·exact hk j h1
    ·rw[←hacc];exact hc
   have hsm:=a5s h.lt (k+1) hk1;have hO':∃O',O'=O:=⟨_,rfl⟩
   have hst:=b64 (tb:=tb) (n:=n) (t:=(a1n tb acc n).1) hb1;have hdr:=λH b hb=>b9j (d:=false) H b (a4o tb acc) (c0g tb (a1n tb acc n).1) hb (b03 _ _) (by have:=b78 tb (a1n tb acc n).1;omega);rw[show drS (a4o tb acc) (c0g tb (a1n tb acc n).1)=a4o tb (acc++[(a1n tb acc n).1])from b2t λr=>b55 r acc _]at hdr;rcases hGO with ⟨hk0,hO,hG⟩|⟨hk0,hO,hG⟩
   all_goals (
    (repeat first|simp only[ww]|(apply xa;simp+decide only[go_sem,hl0,hO,hG];rfl;kernel_rfl))
    refine a0t kp23_2 (λq F H1=>∃t,q=n-t∧t≤n∧F=[(7,a4j tb n),(8,.map 0),(9,O),(10,.int .i64 (a1n tb acc t).1),(11,.int .i64 (a1n tb acc t).2),(30,a4j tb n),(31,.int .i64 n),(32,.int .i64 t)]∧H1=some (.uset (a4o tb acc))::G) n ?_ ?_
    ·refine⟨_,_,?_,0,rfl,Nat.zero_le _,rfl,rfl⟩
     (simp+decide only[go_sem,a03,a00,hsr,hse,hO,hG,a2c,a5m,List.length_range]<;>rfl)<;>rfl
    ·rintro q F H1 ⟨t,rfl,htn,rfl,rfl⟩
     by_cases hlt:t<n
     ·have c1:(t:Int)<n:=by omega
      have hg:=b64 (tb:=tb) (n:=n) (t:=t) hlt;have hw:=wI1 (n:=t) (by omega);have hgs:a1n tb acc (t+1)=if(a1n tb acc t).2<a74 tb acc t then(t,a74 tb acc t)else a1n tb acc t:=rfl
      unfold a4j
      (repeat first|simp only[ww]|(apply xa;simp+decide only[go_sem,c1,hlt,hg,hO,hG];rfl;kernel_rfl))
      refine d2y kp23_4 (c0g tb t) (λV=>[(7,a4j tb n),(8,.map 0),(9,O),(10,.int .i64 (a1n tb acc t).1),(11,.int .i64 (a1n tb acc t).2),(12,.int .i64 t),(14,.int .i64 (drN (a4o tb acc) V)),(30,a4j tb n),(31,.int .i64 n),(32,.int .i64 t),(38,.ptr (G.length+1) 0 0)])
       (λV=>some (.uset (a4o tb acc))::(G++[some (.miter (c0g tb t) V none)])) (G.length+1) (.exit 4)
       [(40,.bool false),(39,.tuple [.bool false]),(7,a4j tb n),(8,.map 0),(9,O),(10,.int .i64 (a1n tb acc t).1),(11,.int .i64 (a1n tb acc t).2),(12,.int .i64 t),(14,.int .i64 (a74 tb acc t)),(30,a4j tb n),(31,.int .i64 n),(32,.int .i64 t),(38,.ptr (G.length+1) 0 0)]
       (some (.uset (a4o tb acc))::(G++[none])) (b03 _ _) ?_ ?_ ?_ ?_ ?_
      ·subst hO hG;unfold a4j
       (simp+decide only[go_sem,a03,a00,a2c,a5m]<;>rfl)<;>rfl
      ·intro V _ _;subst hO hG;exact⟨rfl,none,rfl⟩
      ·intro V i h1 h2 h3 h4;have hbd:drN (a4o tb acc) V<1000000:=Nat.lt_of_le_of_lt (Nat.le_trans d43 (c2o h1 h2)) (by have:=b78 tb t;omega);have hw2:=wI1 (n:=drN (a4o tb acc) V) (by omega);subst hO hG;unfold a4j;refine xq (by simp+decide only[go_sem]<;>rfl) ?_;by_cases hc2:(a4o tb acc).contains i=true
       ·have e2:=c80 (ks:=a4o tb acc) (V:=V) (i:=i) hc2
        (repeat first|simp only[ww]|(apply xa;simp+decide only[go_sem,hc2,hw2];rfl;kernel_rfl))
        show gcD _ _ _ _=_;rw[e2]
        (simp+decide only[go_sem,a03,a00,a2c,a5m]<;>rfl)<;>rfl
       ·have hc2:(a4o tb acc).contains i=false:=by simpa using hc2
        have e2:=d42 (ks:=a4o tb acc) (V:=V) (i:=i) hc2;rw[e2]
        (repeat first|simp only[ww]|(apply xa;simp+decide only[go_sem,hc2];rfl;kernel_rfl))
        show gcD _ _ _ _=_
        (simp+decide only[go_sem,a03,a00,a2c,a5m]<;>rfl)<;>rfl
      ·intro V hV;have e2:=c3d (ks:=a4o tb acc) hV;subst hO hG;unfold a4j;refine xq (by simp+decide only[go_sem]<;>rfl) ?_;rw[e2]
       (repeat first|simp only[ww]|(apply xa;simp+decide only[go_sem];rfl;kernel_rfl))
       exact⟨rfl,rfl,rfl⟩
      ·show Wp _ _ _ _ _;subst hO hG;unfold a4j;by_cases hgt:(a1n tb acc t).2<a74 tb acc t
       ·rw[if_pos hgt]at hgs;have c2:((a1n tb acc t).2:Int)<(a74 tb acc t:Int):=by omega
        (repeat first|simp only[ww]|(apply xa;simp+decide only[go_sem,c2,hw];rfl;kernel_rfl))
        refine a0b (n-(t+1)) (by omega) ⟨_,_,?_,t+1,rfl,hlt,rfl,rfl⟩;rw[hgs]
        (simp+decide only[go_sem,a03,a00,a2c,a5m]<;>rfl)<;>rfl
       ·rw[if_neg hgt]at hgs;have c2:¬((a1n tb acc t).2:Int)<(a74 tb acc t:Int):=by omega
        (repeat first|simp only[ww]|(apply xa;simp+decide only[go_sem,c2,hw];rfl;kernel_rfl))
        refine a0b (n-(t+1)) (by omega) ⟨_,_,?_,t+1,rfl,hlt,rfl,rfl⟩;rw[hgs]
        (simp+decide only[go_sem,a03,a00,a2c,a5m]<;>rfl)<;>rfl
     ·obtain rfl:t=n:=by omega
      have c1:¬(t:Int)<t:=by omega
      have hdr0:=hdr (some (.uset (a4o tb acc))::G) 0 rfl;have hrm:acc.length+1≤1000000000:=by omega
      have hnx:b48 tb t (k+1)=acc++[(a1n tb acc t).1]:=by rw[hacc];rfl
      subst hO hG;unfold a4j
      (repeat first|simp only[ww]|(apply xa;simp+decide only[go_sem,c1,hb1,hst,hdr0,hrm,List.length_map];rfl;kernel_rfl))
      refine a0b (tb.length-(k+1)) (by omega) ⟨_,_,?_,k+1,acc++[(a1n tb acc t).1],.slice 1 0 (acc++[(a1n tb acc t).1]).length none,_,rfl,hnx.symm,hk1,rfl,rfl,.inr ⟨by simp,rfl,rfl⟩⟩;simp+decide only[a03,a00,go_sem,List.map_append,List.map_cons,List.map_nil,List.length_append,List.length_cons,List.length_nil,a2c,a5m]<;>first|rfl|(simp only[hk0];rfl))
def c2f(x t:Nat):List Nat:=(List.range t).filter λt=>decide (x/2^t%2=1)
def c5d(xs:List Nat)(n:Nat):List (List Nat):=xs.map λx=>c2f x n
def tbV:List (List Nat)→AV|[]=>.nilslice|a::r=>.islice ((a::r).map λf=>[slF none (f.map a12)]) none
theorem c64(x t:Nat):c2f x (t+1)=c2f x t++if x/2^t%2=1 then[t]else[]:=by
 unfold c2f;rw[List.range_succ,List.filter_append]
 congr 1
 by_cases h:x/2^t%2=1<;>simp[h]
theorem b6e(x t:Nat):(c2f x t).length≤t:=Nat.le_trans (List.length_filter_le _ _) (by simp)
theorem e6y{x t:Nat}(h:t≤8):d68 .u8 (x:Int) (t:Int)=((x/2^t:Nat):Int):=by
 unfold d68;have:min (t:Int).toNat IntKind.u8.bits=t:=by simp[IntKind.bits];omega
 rw[this,show(2:Int)^t=((2^t:Nat):Int) by simp];exact(Int.ofNat_fdiv x (2^t)).symm
def foT(xs:List Nat)(n i:Nat):List (List (List AV)):=(xs.take i).map λx=>(c2f x n).map a12
theorem d6l{xs:List Nat}{n i:Nat}(h:i≤xs.length):(foT xs n i).length=i:=by simp[foT];omega
theorem d13{xs:List Nat}{n i x:Nat}(h:xs[i]?=some x):foT xs n (i+1)=foT xs n i++[(c2f x n).map a12]:=by unfold foT;rw[List.take_add_one,h,List.map_append];rfl
theorem d9t{xs:List Nat}{n:Nat}(h:xs≠[]):tbV (c5d xs n) = .islice ((foT xs n xs.length).map λf=>[slF none f]) none:=by
 cases xs with
 |nil=>exact absurd rfl h
 |cons a r=>simp[tbV,c5d,foT]
theorem c9x(xs:List Nat)(c:Option (Option Nat))(hx:∀x∈xs,x<256)(hl:xs.length≤1000)(m:Nat)(hm:m<256):sem L.env Mf 66 [sl c (xs.map u8R),.int .u8 m] []=some (.tuple [tbV (c5d xs (m%9)),.int .i64 (m%9:Nat)],[]):=by
 suffices hs:∃r:AV×a04,(r=(.tuple [tbV (c5d xs (m%9)),.int .i64 (m%9:Nat)],[]))∧sem L.env Mf 66 [sl c (xs.map u8R),.int .u8 m] []=some r by obtain⟨r,rfl,h3⟩:=hs;exact h3
 have hw0:IntKind.i64.wrap ((m%9:Nat):Int)=(m%9:Nat):=w64 (by omega) (by omega)
 (refine svE Tryz.f66 ?_;simp only[Tryz.f66,gS])
 (repeat first|simp only[ww]|(apply xa;simp+decide only[go_sem,hw0];rfl;kernel_rfl))
 have hn8:m%9≤8:=by omega
 generalize m%9=n at hn8;refine a0t kp66_0 (λq F H1=>∃i b ids fo,q=xs.length-i∧i≤xs.length∧fo=foT xs n i∧F=[(0,sl c (xs.map u8R)),(6,.int .i64 n),(7,c6h b fo),(8,.int .i64 i)]∧Twc H1 b ids fo []) xs.length ?_ ?_
 ·refine(Twc.init _).head ?_ (by simp) ?_
  ·simp+decide only[go_sem,c2m,a1u]
  ·intro π b' ids' H1 _ _ hT;refine⟨0,b',ids',_,rfl,Nat.zero_le _,rfl,?_,hT⟩;simp+decide only[go_sem]<;>rfl
 ·rintro q F H ⟨i,b,ids,fo,rfl,hi,hfo,rfl,hT⟩
  have hfl:fo.length=i:=by rw[hfo];exact d6l hi
  have hor:refs (c6h b fo)=if fo=[]then[]else[b]:=a8l b fo
  by_cases hlt:i<xs.length
  ·obtain⟨x,hxg⟩:∃x,xs[i]?=some x:=⟨_,z9e hlt⟩
   have c1:(i:Int)<xs.length:=by omega
   have hw:=wI1 (n:=i) (by omega);have hrb:=b6e x n
   (repeat first|simp only[ww]|(apply xa;simp+decide only[go_sem,c1,List.length_map];rfl;kernel_rfl))
   refine a0t kp66_2 (λq F H1=>∃t b ids,q=n-t∧t≤n∧F=[(0,sl c (xs.map u8R)),(6,.int .i64 n),(7,c6h b fo),(8,.int .i64 i),(9,grV (ids fo.length) ((c2f x t).map a12)),(10,.int .i64 t)]∧Twc H1 b ids fo ((c2f x t).map a12)) n ?_ ?_
   ·refine hT.head ?_ (by omega) ?_
    ·simp+decide only[go_sem,a1u,List.append_nil]
    ·intro π b' ids' H1 hb hc hT;refine⟨0,b',ids',rfl,Nat.zero_le _,?_,hT⟩;simp+decide only[go_sem,b1e hb]<;>rfl
   ·rintro q F H ⟨t,b,ids,rfl,ht,rfl,hT⟩
    by_cases htl:t<n
    ·have c2:(t:Int)<n:=by omega
     have hw2:=wI1 (n:=t) (by omega);have hsh:=e6y (x:=x) (t:=t) (by omega);have hrs:=c64 x t;have hrl:=b6e x t;have ht0:((t:Int)<0)=False:=by simp
     by_cases hb:x/2^t%2=1
     ·rw[if_pos hb]at hrs;have hb':((x/2^t%2:Nat):Int)=1:=by omega
      generalize hcu:(c2f x t).map a12=cur at hT;have hcl:cur.length≤1000:=by rw[←hcu,List.length_map];omega
      have hcn:(c2f x (t+1)).map a12=cur++[a12 t]:=by rw[hrs,List.map_append,hcu];rfl
      cases cur with
      |nil=>
       (repeat first|simp only[ww]|(apply xa;simp+decide only[go_sem,c2,hxg,hlt,hsh,ht0,hb',hw2,a1u,a1r,a1s,a0x,a41,a56,a55,a3n,a2m,List.append_assoc,List.cons_append,List.nil_append];rfl;kernel_rfl))
       refine a0b (n-(t+1)) (by omega) ?_;refine Twc.head (hT.push (x:=a12 t) (n:=H.length+1) rfl (by omega) (by rw[a1s];rfl) (λc hc _=>a0x (eq_true hc))) ?_ (by omega) ?_
       ·simp+decide only[go_sem,if_pos,a0r]
       ·intro π b' ids' H1 hb hc hT;refine⟨t+1,b',ids',rfl,htl,?_,by rw[hcn];exact hT⟩;have hc:=hc (by simp);rw[if_pos rfl]at hc;rw[hcn];simp+decide only[go_sem,b1e hb,hc,a0r]<;>rfl
      |cons a r=>
       obtain⟨s1,s2⟩:=hT.curAt (by simp);have s3:=a0l s1;have hrm:r.length+1+1≤1000000000:=by simp only[List.length_cons]at hcl;omega
       (repeat first|simp only[ww]|(apply xa;simp+decide only[go_sem,c2,hxg,hlt,hsh,ht0,hb',hw2,a0r,s1,s3,hrm,List.length_set,a1r,a1s,a0x,a41,a56,a55,a3n,a2m,List.append_assoc,List.cons_append,List.nil_append];rfl;kernel_rfl))
       refine a0b (n-(t+1)) (by omega) ?_;refine Twc.head (hT.push (x:=a12 t) (n:=H.length+1) rfl (by omega) (by rw[a1w];rfl) (λc hc h2=>by rw[a8u hc,if_neg (Ne.symm (h2 (by simp)))])) ?_ (by omega) ?_
       ·simp+decide only[go_sem,if_pos,a0r,List.cons_append]
       ·intro π b' ids' H1 hb hc hT;refine⟨t+1,b',ids',rfl,htl,?_,by rw[hcn];exact hT⟩;have hc:=hc (by simp);rw[if_pos rfl]at hc;rw[hcn];simp+decide only[go_sem,b1e hb,hc,a0r,List.cons_append,List.length_append,List.length_cons,List.length_nil]<;>rfl
     ·rw[if_neg hb,List.append_nil]at hrs;have hb':¬((x/2^t%2:Nat):Int)=1:=by omega
      (repeat first|simp only[ww]|(apply xa;simp+decide only[go_sem,c2,hxg,hlt,hsh,ht0,hb',hw2];rfl;kernel_rfl))
      refine a0b (n-(t+1)) (by omega) ?_;refine Twc.head hT ?_ (by omega) ?_
      ·simp+decide only[go_sem,List.append_nil]
      ·intro π b' ids' H1 hb hc hT;refine⟨t+1,b',ids',rfl,htl,?_,by rw[hrs];exact hT⟩;rw[hrs];simp+decide only[go_sem,b1e hb,d6f hc]<;>rfl
    ·obtain rfl:t=n:=by omega
     have c2:¬(t:Int)<t:=by omega
     generalize hcu:(c2f x t).map a12=cur at hT;have hfs:=d13 (n:=t) hxg;rw[hcu,←hfo]at hfs;by_cases hfe:fo=[]
     ·subst hfe
      (repeat first|simp only[ww]|(apply xa;simp+decide only[go_sem,c2,c2m,b9s,b0l,c2w,b4k,hw,a1r,a1s,a0x,a41,a56,a55,a3n,a2m,List.append_assoc,List.cons_append,List.nil_append];rfl;kernel_rfl))
      refine a0b (xs.length-(i+1)) (by omega) ?_;refine Twc.head (hT.next (n:=H.length+1) (by omega) (by rw[a1s,b63];rfl) (λc hc _=>a0x (eq_true hc))) ?_ (by simp) ?_
      ·simp+decide only[go_sem,a1u,List.append_nil];rfl
      ·intro π b' ids' H1 hb hc hT;refine⟨i+1,b',ids',_,rfl,hlt,hfs.symm,?_,hT⟩;have hb:=hb (by simp);simp+decide only[go_sem,hb]<;>rfl
     ·have htop:=hT.top hfe;have hbl:=a0l htop;have hov:=b6l b hfe;have hrl:=a3l ids cpN fo;have hrm:fo.length+1≤1000000000:=by omega
      (repeat first|simp only[ww]|(apply xa;simp+decide only[go_sem,c2,hov,htop,hbl,hrl,hrm,b9s,b0l,c2w,b4k,hw,List.length_set,a1r,a1s,a0x,a41,a56,a55,a3n,a2m,List.append_assoc,List.cons_append,List.nil_append];rfl;kernel_rfl))
      refine a0b (xs.length-(i+1)) (by omega) ?_;refine Twc.head (hT.next (n:=H.length+1) (by omega) (by rw[a1w,b63];rfl) (λc hc h2=>by rw[a8u hc,if_neg (Ne.symm (h2 hfe))])) ?_ (by simp;omega) ?_
      ·rw[b6l _ (by simp)];simp+decide only[go_sem,a1u,List.append_nil]
      ·intro π b' ids' H1 hb hc hT;refine⟨i+1,b',ids',_,rfl,hlt,hfs.symm,?_,hT⟩;have hb:=hb (by simp);rw[b6l _ (by simp)];simp+decide only[go_sem,hb,List.length_append,List.length_cons,List.length_nil]<;>rfl
  ·obtain rfl:i=xs.length:=by omega
   have c1:¬(xs.length:Int)<xs.length:=by omega
   by_cases hx0:xs=[]
   ·subst hx0
    (repeat first|simp only[ww]|(apply xa;simp+decide only[go_sem,c1];rfl;kernel_rfl))
    refine a32 (vs:=[.nilslice,.int .i64 n]) (r:=(_,_)) (by subst hfo;simp+decide only[go_sem];rfl) ?_ rfl;simp+decide only[go_sem,a0j]<;>rfl
   ·have hfe:fo≠[]:=λe=>hx0 (List.eq_nil_of_length_eq_zero (by rw[←hfl,e];rfl));have hov:=b6l b hfe;have hz:=(hT.two hfe).frz none;rw[d9t hx0,←hfo];have hmi:(fo.mapIdx λj f=>[slF (cpN j) f])=fo.map λf=>[slF none f]:=by
     apply List.ext_getElem?;intro j;simp[cpN]
    rw[hmi]at hz
    (repeat first|simp only[ww]|(apply xa;simp+decide only[go_sem,c1,List.length_map];rfl;kernel_rfl))
    refine a32 (vs:=[.slice b 0 fo.length none,.int .i64 n]) (r:=(_,_)) (by simp+decide only[go_sem,hov]) ?_ rfl;simp+decide only[go_sem]at hz;simp+decide only[go_sem,a0j,hz]<;>rfl
theorem c71(l:List Nat):c9m L.env 34 (lsV l)=some (.int .i64 l.length):=by
 cases l with
 |nil=>simp+decide only[go_sem,lsV];rfl
 |cons a r=>simp+decide only[go_sem,lsV,List.length_cons]
theorem d69(l:List Nat)(c:Option Nat)(hl:l.length<1000000):sem L.env Mf 13 [lsV l,.slice 0 0 l.length c] [some (.row 1 (l.map a12))]=some (.int .i64 0,[some (.row 1 (l.map a12))]):=by
 have hlen2:=a3k (a6j l) (a01 [some (.row 1 (l.map a12))]);have hcap:=c71 l;have hr:=a2n l;have hren:∀π,ren π (lsV l)=lsV l:=λπ=>a0f π _ hr;have c0:¬(l.length:Int)<l.length:=by omega
 suffices hs:∃r:AV×a04,(r=(.int .i64 0,[some (.row 1 (l.map a12))]))∧sem L.env Mf 13 [lsV l,.slice 0 0 l.length c] [some (.row 1 (l.map a12))]=some r by obtain⟨r,rfl,h3⟩:=hs;exact h3
 (refine svE Tryz.f13 ?_;simp only[Tryz.f13,gS])
 (repeat first|simp only[ww]|(apply xa;simp+decide only[go_sem,hlen2,hcap,c0];rfl;kernel_rfl))
 refine a0t kp13_0 (λn F H1=>∃(i:Nat),n=l.length-i∧i≤l.length∧F=[(0,lsV l),(1,.slice 0 0 l.length c),(5,.int .i64 i)]∧H1=[some (.row 1 (l.map a12))]) l.length ?_ ?_
 ·refine⟨_,_,?_,0,rfl,Nat.zero_le _,rfl,rfl⟩
  (simp+decide only[go_sem,a03,a00,hr,hren,a2c,a5m]<;>rfl)<;>rfl
 ·rintro n F H1 ⟨i,rfl,hi,rfl,rfl⟩
  by_cases hlt:i<l.length
  ·obtain⟨v,hv⟩:∃v,l[i]?=some v:=⟨_,z9e hlt⟩
   have hg:(l.map a12)[i]?=some [.int .i64 v]:=by rw[List.getElem?_map,hv];rfl
   have hls:lsV l = .islice (l.map a12) (some l.length):=by
    cases l with
    |nil=>simp at hlt
    |cons a r=>rfl
   have c1:(i:Int)<l.length:=by omega
   have hw:=wI1 (n:=i) (by omega);have c2:¬¬(v:Int)=v:=by simp
   (repeat first|simp only[ww]|(apply xa;simp+decide only[go_sem,hlen2,c1];rfl;kernel_rfl))
   (repeat first|simp only[ww]|((with_reducible first|apply xs2|apply xI);(·simp+decide only[go_sem,hls,hg,hlt,List.length_map,hw];rfl);with_reducible first|apply xT|apply xF|(·kernel_rfl)))
   refine a0b (l.length-(i+1)) (by omega) ⟨_,_,?_,i+1,rfl,hlt,rfl,rfl⟩
   (simp+decide only[go_sem,a03,a00,hls,a2c,a5m]<;>rfl)<;>rfl
  ·obtain rfl:i=l.length:=by omega
   have c1:¬(l.length:Int)<l.length:=by omega
   (repeat first|simp only[ww]|(apply xa;simp+decide only[go_sem,hlen2,c1];rfl;kernel_rfl))
   refine a32 (vs:=[.int .i64 0]) (r:=(_,_)) (by simp+decide only[go_sem]) ?_ rfl;simp+decide only[go_sem,a0j,a5m]<;>rfl
theorem b2y{d:Bool}{H:a04}{b:Nat}{l:List Nat}{c:Option Nat}(hl:l.length<1000000)(hb:a01 H b=some (.row 1 (l.map a12))) :
 a0d L.env d (sem L.env Mf) (.func (.func 13) [] []) [lsV l,.slice b 0 l.length c] H=some (.int .i64 0,H,[b]):=by
 have hr:=a2n l;have hren:∀π,ren π (lsV l)=lsV l:=λπ=>a0f π _ hr;have h:=a2z (E:=L.env) (draw:=d) (call:=sem L.env Mf) (g:=13) (fs:=[]) (cs:=[]) (ar:=[lsV l,.slice b 0 l.length c]) (H:=H) (b:=b) (by kernel_rfl) (by kernel_rfl) rfl hb (a0m (a7r l)) (FlatO.row (a7r l)) (by simp only[List.nil_append,List.append_nil,a3b,hr,b4w];rfl) (args':=[lsV l,.slice 0 0 l.length c]) (by simp only[List.nil_append,List.append_nil,List.map_cons,List.map_nil,a27,hren]) (d69 l c hl) (FlatO.row (a7r l)) rfl;rw[a54 hb]at h;exact h
theorem a5q{d:Bool}(H:a04):a0d L.env d (sem L.env Mf) (.func (.func 6) [] []) [] H=some (.bool true,H,[]):=a07 (by kernel_rfl) (by kernel_rfl) rfl rfl b8u rfl
theorem c9u(tb:List (List Nat)):refs (tbV tb)=[]:=by cases tb<;>rfl
theorem d3h(l:List Nat):RV l (slF none (l.map a12)):=by
 cases l with
 |nil=>exact .nil rfl
 |cons a r=>exact .imm none
theorem d9s(tb:List (List Nat)):TBv tb (tbV tb):=by
 cases tb with
 |nil=>exact .nil rfl
 |cons a r=>have h:=TBv.imm (tb:=a::r) ((a::r).map λf=>slF none (f.map a12)) none (by simp) (λi f hf=>⟨slF none (f.map a12),by rw[List.getElem?_map,hf];rfl,d3h f⟩);rw[List.map_map]at h;exact h
theorem b3x{n:Nat}(p:Nat→Bool):∀(k a:Nat),a+k≤n→∀z:Int,z<a→Asc n z ((List.range' a k).filter p)
 |0,a,_,z,_=>trivial
 |k+1,a,h,z,hz=>by
  rw[List.range'_succ,List.filter_cons];split
  ·exact⟨hz,by omega,b3x p k (a+1) (by omega) _ (by omega)⟩
  ·exact b3x p k (a+1) (by omega) z (by omega)
theorem d05(x n:Nat):Asc n (-1) (c2f x n):=by unfold c2f;rw[List.range_eq_range'];exact b3x _ n 0 (by omega) (-1) (by omega)
theorem d37{xs:List Nat}{n:Nat}(hl:xs.length≤1000)(hn:n≤8):Tab (c5d xs n) n (tbV (c5d xs n)):=by refine⟨d9s _,by simpa[c5d]using hl,by omega,?_⟩;intro r hr;obtain⟨x,_,rfl⟩:=List.mem_map.1 hr;exact⟨by have:=b6e x n;omega,d05 x n⟩
theorem b4l{d:Bool}(H:a04)(xs:List Nat)(c:Option (Option Nat))(hx:∀x∈xs,x<256)(hl:xs.length≤1000)(m:Nat)(hm:m<256) :
 a0d L.env d (sem L.env Mf) (.func (.func 66) [] []) [sl c (xs.map u8R),.int .u8 m] H=some (.tuple [tbV (c5d xs (m%9)),.int .i64 (m%9:Nat)],H,[]):=
 a07 (by kernel_rfl) (by kernel_rfl) rfl (by simp only[List.nil_append,List.append_nil,a3b,a64];rfl) (c9x xs c hx hl m hm) (by simp[refs,a0a,c9u])
theorem b0o{d:Bool}(H:a04){tb:List (List Nat)}{n:Nat}{A:AV}(h:Tab tb n A):a0d L.env d (sem L.env Mf) (.func (.func 22) [] []) [A,.int .i64 n] H=some (.tuple [lsV (later tb n []),.int .i64 0],H,[]):=a07 (by kernel_rfl) (by kernel_rfl) rfl (by simp[a0a,h.val.refs,refs]) (c44 h) (by simp[refs,a0a,a2n])
theorem b35{tb:List (List Nat)}{n:Nat}{A:AV}(h:Tab tb n A):∃l,GSel tb n l∧∀(d:Bool) (H:a04),a0d L.env d (sem L.env Mf) (.func (.func 23) [] []) [A,.int .i64 n] H=some (.tuple [lsV l,.int .i64 0],H,[]):=by obtain⟨r,⟨l,h1,rfl⟩,h2⟩:=c7k h;exact⟨l,h1,λd H=>a07 (by kernel_rfl) (by kernel_rfl) rfl (by simp[a0a,h.val.refs,refs]) h2 (by simp[refs,a0a,a2n])⟩
theorem a8t{l:List Nat}{V:AV}(H:a04)(hV:RV l V)(hl:l.length<1000000){d:Bool}(t:Nat):a0d L.env d (sem L.env Mf) (.func (.func 15) [] []) [V,.int .i64 t] H=some (.bool (l.contains t),H,[]):=a07 (by kernel_rfl) (by kernel_rfl) rfl (by simp[a0a,hV.refs,refs]) (e1k l V [] hV.ri hl t) rfl
inductive LS(l:List Nat):AV→a04→Prop
 |nil (h:l=[]):LS l .nilslice []
 |blk (c:Option Nat) (h:l≠[]):LS l (.slice 0 0 l.length c) [some (.row 1 (l.map a12))]
theorem LS.ri{l:List Nat}{V:AV}{H:a04}(h:LS l V H):RI l V H:=by
 cases h with
 |nil h=>exact .nil h
 |blk c h=>
  have:=RI.blk (l:=l) c [] (by rw[List.append_nil];exact a7r l)
  rwa [List.append_nil]at this
theorem LS.frz{l:List Nat}{V:AV}{H:a04}(h:LS l V H):∃W,a23 0 true (a3v (a01 H) 0 12) V=some W∧RV l W:=by
 cases h with
 |nil h=>exact⟨.nilslice,rfl,.nil h⟩
 |blk c h=>refine⟨.islice (l.map a12) c,?_,.imm c⟩;have hb:a01 [some (.row 1 (l.map a12))] 0=some (.row 1 (l.map a12)):=rfl;simp+decide only[go_sem,List.length_map,e4v,c0k]<;>rfl
inductive LN(l:List Nat):AV→a04→Prop
 |nil (h:l=[]):LN l .nilslice []
 |blk (h:l≠[]):LN l (.slice 0 0 l.length none) [some (.row 1 (l.map a12))]
theorem LN.ls{l:List Nat}{V:AV}{H:a04}(h:LN l V H):LS l V H:=by
 cases h with
 |nil h=>exact .nil h
 |blk h=>exact .blk none h
theorem e6t(l:List Nat):((l.map a12).all λr=>decide (r.length=1))=true:=by rw[List.all_eq_true];intro r hr;obtain⟨x,_,rfl⟩:=List.mem_map.1 hr;rfl
theorem e5v(l:List Nat):((l.map a12).all λr=>r.all AV.storable)=true:=by rw[List.all_eq_true];intro r hr;obtain⟨x,_,rfl⟩:=List.mem_map.1 hr;rfl
theorem d1m(t:Nat)(acc:List Nat):(t::acc).length=1+acc.length:=by simp;omega
theorem c3y(xs:List Nat)(c:Option (Option Nat))(hx:∀x∈xs,x<256)(m:Nat)(hm:m<256):sem L.env Mf 27 [sl c (xs.map u8R),.int .u8 m] []=some (.bool true,[]):=by
 have hlv:=λH=>a5q (d:=false) H
 suffices hs:∃r:AV×a04,(r=(.bool true,[]))∧sem L.env Mf 27 [sl c (xs.map u8R),.int .u8 m] []=some r by obtain⟨r,rfl,h3⟩:=hs;exact h3
 by_cases hbig:30<xs.length
 ·have c0:(30:Int)<xs.length:=by omega
  (refine svE Tryz.f27 ?_;simp only[Tryz.f27,gS])
  (repeat first|simp only[ww]|(apply xa;simp+decide only[go_sem,List.length_map,c0,hlv];rfl;kernel_rfl))
  refine a3q (vs:=[.bool true]) (r:=(_,_)) (by simp+decide only[go_sem]) ?_ rfl;simp+decide only[go_sem,a0j]<;>rfl
 have c0:¬(30:Int)<xs.length:=by omega
 have hta:=b4l (d:=false) [] xs c hx (by omega) m hm;have hn8:m%9≤8:=by omega
 generalize m%9=n at hta hn8;have hT:=d37 (xs:=xs) (n:=n) (by omega) hn8;generalize htb:c5d xs n=tb at hta hT;have htl:tb.length≤30:=by rw[←htb];simp[c5d];omega
 have hrev:=b0o (d:=false) [] hT;obtain⟨gl,hgl,hgr⟩:=b35 hT;have hgr:=hgr false [];generalize hA:tbV tb=A at hta hT hrev hgr;have hAr:=hT.val.refs;have hAn:∀π,ren π A=A:=λπ=>a0f π A hAr;have hAf:∀b d,a23 0 b d A=some A:=λb d=>a16 _ _ d A hAr;have h1r:=a2n (later tb n []);have h1n:∀π,ren π (lsV (later tb n []))=lsV (later tb n []):=λπ=>a0f π _ h1r;have h1f:∀b d,a23 0 b d (lsV (later tb n []))=some (lsV (later tb n [])):=λb d=>a16 _ _ d _ h1r;have h2r:=a2n gl;have h2n:∀π,ren π (lsV gl)=lsV gl:=λπ=>a0f π _ h2r;have h2f:∀b d,a23 0 b d (lsV gl)=some (lsV gl):=λb d=>a16 _ _ d _ h2r;have hsm:=hT.small;have hw0:IntKind.i64.wrap ((n:Int)-1)=(n:Int)-1:=w64 (by omega) (by omega)
 (refine svE Tryz.f27 ?_;simp only[Tryz.f27,gS])
 (repeat first|simp only[ww]|(apply xa;simp+decide only[go_sem,List.length_map,c0,hta,hrev,hgr,hw0];rfl;kernel_rfl))
 refine c27 kp27_0 rfl (λq F H1=>∃(s:Nat) (x:Int) (acc:List Nat) (V:AV) (H:a04),q=s∧s≤n∧x=(s:Int)-1∧F=[(5,A),(6,.int .i64 n),(7,lsV (later tb n [])),(9,lsV gl),(11,V),(12,.int .i64 x),(1000000,.junk)]∧H1=H∧LS acc V H∧acc.length+s≤n∧later tb s acc=later tb n []) n ?_ ?_
 ·refine⟨_,_,?_,n,_,[],.nilslice,[],rfl,Nat.le_refl _,rfl,rfl,rfl,.nil rfl,by simp,rfl⟩
  (simp+decide only[go_sem,a03,a00,hAr,hAn,h1r,h1n,h2r,h2n]<;>rfl)<;>rfl
 ·rintro q F H1 ⟨s,x,acc,V,H,rfl,hsn,hx,rfl,rfl,hLS,hal,hlat⟩
  cases q with
  |zero=>
   have d1:¬(0:Int)≤x:=by omega
   have hacc:acc=later tb n []:=hlat;obtain⟨W,hW1,hW2⟩:=hLS.frz
   (repeat first|simp only[ww]|(apply xa;simp+decide only[go_sem,d1];rfl;kernel_rfl))
   rw[c4p];simp+decide only[go_sem,hAf,h1f,h2f,hW1];rw[hacc]at hW2;clear hW1 hLS hacc hlat hal d1;have hL1l:(later tb n []).length≤8:=by have:=a8r tb n [];simp at this;omega
   generalize later tb n []=L1 at *;have hWr:=hW2.refs;have hWn:∀π,ren π W=W:=λπ=>a0f π W hWr
   (repeat first|simp only[ww]|(apply xa;simp+decide only[go_sem];rfl;kernel_rfl))
   refine a0t kp27_4 (λq F H1=>∃(k:Nat) (acc:List Nat) (V:AV) (H:a04),q=tb.length-k∧acc=b48 tb n k∧(∀j,j<k→a4g tb (b48 tb n j)=false)∧F=[(5,A),(6,.int .i64 n),(7,lsV L1),(9,lsV gl),(11,W),(15,V)]∧H1=H∧LN acc V H) tb.length ?_ ?_
   ·refine⟨_,_,?_,0,[],.nilslice,[],rfl,rfl,λj hj=>by omega,rfl,rfl,.nil rfl⟩
    (simp+decide only[go_sem,a03,a00,hAr,hAn,h1r,h1n,h2r,h2n,hWr,hWn]<;>rfl)<;>rfl
   ·rintro q F H1 ⟨k,acc,V,H,rfl,hacc,hk,rfl,rfl,hLN⟩
    have hall:=b6z tb n k;rw[←hacc]at hall;have hkt:=a5s hT.lt k hk;rw[←hacc]at hkt;have hRI:=hLN.ls.ri;have hcv:=c1k hT.val hsm hRI (by omega) (d:=false);by_cases hc:a4g tb acc=true
    ·have hS:GSel tb n acc:=⟨k,hacc,hc,hk⟩
     have hsame:=hS.uniq hgl;rw[hc]at hcv;have hI1:∀(H:a04) (b:Nat) (c:Option Nat),a01 H b=some (.row 1 (L1.map a12))→a0d L.env false (sem L.env Mf) (.func (.func 13) [] []) [lsV L1,.slice b 0 L1.length c] H=some (.int .i64 0,H,[b]):=λH b c h=>b2y (by omega) h;have hI2:∀(H:a04) (b:Nat) (c:Option Nat),a01 H b=some (.row 1 (acc.map a12))→a0d L.env false (sem L.env Mf) (.func (.func 13) [] []) [lsV acc,.slice b 0 acc.length c] H=some (.int .i64 0,H,[b]):=λH b c h=>b2y (by omega) h;rw[←hsame];have hr1:L1.length≤1000000000:=by omega
     have hr2:acc.length≤1000000000:=by omega
     have ht1:=c0k L1;have ht2:=c0k acc;rcases Nat.eq_zero_or_pos L1.length with hz|hz
     ·obtain rfl:=List.eq_nil_of_length_eq_zero hz;simp only[List.map_nil,List.length_nil]at hI1;cases hW2 with
      |nil _=>
       cases hLN with
       |nil h0=>
        subst h0;simp only[List.map_nil,List.length_nil]at hI2
        (repeat first|simp only[ww]|(apply xa;simp+decide only[go_sem,hcv,hI1,hI2,hlv,List.map_nil];rfl;kernel_rfl))
        refine a3q (vs:=[.bool true]) (r:=(_,_)) (by simp+decide only[go_sem]) ?_ rfl;simp+decide only[go_sem,a0j]<;>rfl
       |blk h0=>
        have hz2:¬acc.length≤0:=by have:=List.length_pos_iff.2 h0;omega
        (repeat first|simp only[ww]|(apply xa;simp+decide only[go_sem,hcv,hI1,hI2,hlv,hz2,hr2,ht2,List.length_map,List.map_nil];rfl;kernel_rfl))
        refine a3q (vs:=[.bool true]) (r:=(_,_)) (by simp+decide only[go_sem]) ?_ rfl;simp+decide only[go_sem,a0j]<;>rfl
      |imm _=>
       cases hLN with
       |nil h0=>
        subst h0;simp only[List.map_nil,List.length_nil]at hI2
        (repeat first|simp only[ww]|(apply xa;simp+decide only[go_sem,hcv,hI1,hI2,hlv,List.map_nil];rfl;kernel_rfl))
        refine a3q (vs:=[.bool true]) (r:=(_,_)) (by simp+decide only[go_sem]) ?_ rfl;simp+decide only[go_sem,a0j]<;>rfl
       |blk h0=>
        have hz2:¬acc.length≤0:=by have:=List.length_pos_iff.2 h0;omega
        (repeat first|simp only[ww]|(apply xa;simp+decide only[go_sem,hcv,hI1,hI2,hlv,hz2,hr2,ht2,List.length_map,List.map_nil];rfl;kernel_rfl))
        refine a3q (vs:=[.bool true]) (r:=(_,_)) (by simp+decide only[go_sem]) ?_ rfl;simp+decide only[go_sem,a0j]<;>rfl
     ·have hz1:¬L1.length≤0:=by omega
      cases hW2 with
      |nil h0=>simp[h0]at hz
      |imm _=>
       cases hLN with
       |nil h0=>
        subst h0;simp only[List.map_nil,List.length_nil]at hI2
        (repeat first|simp only[ww]|(apply xa;simp+decide only[go_sem,hcv,hI1,hI2,hlv,hz1,hr1,ht1,e6t,e5v,List.length_map,List.map_nil];rfl;kernel_rfl))
        refine a3q (vs:=[.bool true]) (r:=(_,_)) (by simp+decide only[go_sem]) ?_ rfl;simp+decide only[go_sem,a0j]<;>rfl
       |blk h0=>
        have hz2:¬acc.length≤0:=by have:=List.length_pos_iff.2 h0;omega
        (repeat first|simp only[ww]|(apply xa;simp+decide only[go_sem,hcv,hI1,hI2,hlv,hz1,hr1,ht1,e6t,e5v,hz2,hr2,ht2,List.length_map,List.map_nil];rfl;kernel_rfl))
        refine a3q (vs:=[.bool true]) (r:=(_,_)) (by simp+decide only[go_sem]) ?_ rfl;simp+decide only[go_sem,a0j]<;>rfl
    ·have hc:a4g tb acc=false:=by simpa using hc
     rw[hc]at hcv;obtain⟨hb1,hb2⟩:=a7n hT.lt hc;have hk1:∀j,j<k+1→a4g tb (b48 tb n j)=false:=by
      intro j hj;rcases Nat.lt_succ_iff_lt_or_eq.1 hj with h1|rfl
      ·exact hk j h1
      ·rw[←hacc];exact hc
     have hsm2:=a5s hT.lt (k+1) hk1;have hnx:b48 tb n (k+1)=acc++[(a1n tb acc n).1]:=by rw[hacc];rfl
     (repeat first|simp only[ww]|(apply xa;simp+decide only[go_sem,hcv];rfl;kernel_rfl))
     refine a0t kp27_6 (λq F H2=>∃t,q=n-t∧t≤n∧F=[(5,A),(6,.int .i64 n),(7,lsV L1),(9,lsV gl),(11,W),(15,V),(16,.int .i64 (a1n tb acc t).1),(17,.int .i64 (a1n tb acc t).2),(18,.int .i64 t)]∧H2=H1) n ?_ ?_
     ·refine⟨_,_,?_,0,rfl,Nat.zero_le _,rfl,rfl⟩;cases hLN<;>((simp+decide only[go_sem,a03,a00,hAr,hAn,h1r,h1n,h2r,h2n,hWr,hWn,a2c,a5m]<;>rfl)<;>rfl)
     ·rintro q F H2 ⟨t,rfl,ht,rfl,rfl⟩
      by_cases htl:t<n
      ·have d1:(t:Int)<n:=by omega
       have htw:=wI1 (n:=t) (by omega);have hgs:a1n tb acc (t+1)=if(a1n tb acc t).2<a74 tb acc t then(t,a74 tb acc t)else a1n tb acc t:=rfl
       (repeat first|simp only[ww]|(apply xa;simp+decide only[go_sem,d1];rfl;kernel_rfl))
       refine a0t kp27_8 (λq F H3=>∃i,q=tb.length-i∧i≤tb.length∧F=[(5,A),(6,.int .i64 n),(7,lsV L1),(9,lsV gl),(11,W),(15,V),(16,.int .i64 (a1n tb acc t).1),(17,.int .i64 (a1n tb acc t).2),(18,.int .i64 t),(19,.int .i64 (d0i tb acc t i)),(20,.int .i64 i)]∧H3=H2) tb.length ?_ ?_
       ·refine⟨_,_,?_,0,rfl,Nat.zero_le _,rfl,rfl⟩;cases hLN<;>((simp+decide only[go_sem,a03,a00,hAr,hAn,h1r,h1n,h2r,h2n,hWr,hWn,a2c,a5m]<;>rfl)<;>rfl)
       ·rintro q F H3 ⟨i,rfl,hi,rfl,rfl⟩
        have hlen:=a8e hT.val (a01 H3);by_cases hlt:i<tb.length
        ·obtain⟨r,hrr⟩:∃r,tb[i]?=some r:=⟨_,z9e hlt⟩
         obtain⟨p,X,hp1,hp2,hX⟩:=a8f hT.val (a01 H3) hrr;have hrl:r.length<1000000:=hsm.2 r (List.mem_of_getElem? hrr);have e1:(i:Int)<tb.length:=by omega
         have hw:=wI1 (n:=i) (by omega);have hin:=a8t H3 hX hrl (d:=false) t;have hme:=a9z hX hrl hRI (by omega) (d:=false);have hst:=c6y (acc:=acc) (t:=t) hrr;have hml:=d5z tb acc t i;have hwm:=wI1 (n:=d0i tb acc t i) (by omega);unfold d6c at hst;by_cases hc1:r.contains t=true
         ·rw[hc1,Bool.true_and]at hst;rw[hc1]at hin;by_cases hc2:a1d r acc=true
          ·rw[hc2]at hst hme
           (repeat first|simp only[ww]|(apply xa;simp+decide only[go_sem,hlen,e1,hw,hp1,hp2,hin,hme];rfl;kernel_rfl))
           refine a0b (tb.length-(i+1)) (by omega) ⟨_,_,?_,i+1,rfl,hlt,rfl,rfl⟩;rw[hst];cases hLN<;>((simp+decide only[go_sem,a03,a00,hAr,hAn,h1r,h1n,h2r,h2n,hWr,hWn,a2c,a5m]<;>rfl)<;>rfl)
          ·have hc2:a1d r acc=false:=by simpa using hc2
           rw[hc2]at hst hme
           (repeat first|simp only[ww]|(apply xa;simp+decide only[go_sem,hlen,e1,hw,hp1,hp2,hin,hme,hwm];rfl;kernel_rfl))
           refine a0b (tb.length-(i+1)) (by omega) ⟨_,_,?_,i+1,rfl,hlt,rfl,rfl⟩;rw[hst];cases hLN<;>((simp+decide only[go_sem,a03,a00,hAr,hAn,h1r,h1n,h2r,h2n,hWr,hWn,a2c,a5m]<;>rfl)<;>rfl)
         ·have hc1:r.contains t=false:=by simpa using hc1
          rw[hc1,Bool.false_and]at hst;rw[hc1]at hin
          (repeat first|simp only[ww]|(apply xa;simp+decide only[go_sem,hlen,e1,hw,hp1,hp2,hin];rfl;kernel_rfl))
          refine a0b (tb.length-(i+1)) (by omega) ⟨_,_,?_,i+1,rfl,hlt,rfl,rfl⟩;rw[hst];cases hLN<;>((simp+decide only[go_sem,a03,a00,hAr,hAn,h1r,h1n,h2r,h2n,hWr,hWn,a2c,a5m]<;>rfl)<;>rfl)
        ·obtain rfl:i=tb.length:=by omega
         have e1:¬(tb.length:Int)<tb.length:=by omega
         rw[d0h];by_cases hgt:(a1n tb acc t).2<a74 tb acc t
         ·rw[if_pos hgt]at hgs;have c2:((a1n tb acc t).2:Int)<(a74 tb acc t:Int):=by omega
          (repeat first|simp only[ww]|(apply xa;simp+decide only[go_sem,hlen,e1,c2,htw];rfl;kernel_rfl))
          refine a0b (n-(t+1)) (by omega) ⟨_,_,?_,t+1,rfl,htl,rfl,rfl⟩;rw[hgs];cases hLN<;>((simp+decide only[go_sem,a03,a00,hAr,hAn,h1r,h1n,h2r,h2n,hWr,hWn,a2c,a5m]<;>rfl)<;>rfl)
         ·rw[if_neg hgt]at hgs;have c2:¬((a1n tb acc t).2:Int)<(a74 tb acc t:Int):=by omega
          (repeat first|simp only[ww]|(apply xa;simp+decide only[go_sem,hlen,e1,c2,htw];rfl;kernel_rfl))
          refine a0b (n-(t+1)) (by omega) ⟨_,_,?_,t+1,rfl,htl,rfl,rfl⟩;rw[hgs];cases hLN<;>((simp+decide only[go_sem,a03,a00,hAr,hAn,h1r,h1n,h2r,h2n,hWr,hWn,a2c,a5m]<;>rfl)<;>rfl)
      ·obtain rfl:t=n:=by omega
       have d1:¬(t:Int)<t:=by omega
       have hrm:acc.length+1≤1000000000:=by omega
       cases hLN with
       |nil h0=>
        subst h0
        (repeat first|simp only[ww]|(apply xa;simp+decide only[go_sem,d1];rfl;kernel_rfl))
        refine a0b (tb.length-(k+1)) (by omega) ⟨_,_,?_,k+1,[]++[(a1n tb [] t).1],.slice 0 0 1 none,_,rfl,hnx.symm,hk1,rfl,rfl,.blk (by simp)⟩
        (simp+decide only[go_sem,a03,a00,hAr,hAn,h1r,h1n,h2r,h2n,hWr,hWn,List.nil_append,List.map_cons,List.map_nil]<;>rfl)<;>rfl
       |blk h0=>
        (repeat first|simp only[ww]|(apply xa;simp+decide only[go_sem,d1,hrm,List.length_map];rfl;kernel_rfl))
        refine a0b (tb.length-(k+1)) (by omega) ⟨_,_,?_,k+1,acc++[(a1n tb acc t).1],.slice 0 0 (acc++[(a1n tb acc t).1]).length none,_,rfl,hnx.symm,hk1,rfl,rfl,.blk (by simp)⟩
        (simp+decide only[go_sem,a03,a00,hAr,hAn,h1r,h1n,h2r,h2n,hWr,hWn,List.map_append,List.map_cons,List.map_nil,List.length_append,List.length_cons,List.length_nil,a2c,a5m]<;>rfl)<;>rfl
  |succ t=>
   obtain rfl:x=(t:Int):=by omega
   have d1:(0:Int)≤(t:Int):=by omega
   have htw:IntKind.i64.wrap ((t:Int)-1)=(t:Int)-1:=w64 (by omega) (by omega)
   (repeat first|simp only[ww]|(apply xa;simp+decide only[go_sem,d1];rfl;kernel_rfl))
   refine a0t kp27_2 (λq F H2=>∃i,q=tb.length-i∧i≤tb.length∧F=[(5,A),(6,.int .i64 n),(7,lsV (later tb n [])),(9,lsV gl),(11,V),(12,.int .i64 t),(13,.bool (d2b tb acc t i)),(14,.int .i64 i)]∧H2=H1) tb.length ?_ ?_
   ·refine⟨_,_,?_,0,rfl,Nat.zero_le _,rfl,rfl⟩;cases hLS<;>((simp+decide only[go_sem,a03,a00,hAr,hAn,h1r,h1n,h2r,h2n,a2c,a5m]<;>rfl)<;>rfl)
   ·rintro q F H2 ⟨i,rfl,hi,rfl,rfl⟩
    have hlen:=a8e hT.val (a01 H2);by_cases hlt:i<tb.length
    ·obtain⟨r,hrr⟩:∃r,tb[i]?=some r:=⟨_,z9e hlt⟩
     obtain⟨p,W,hp1,hp2,hW⟩:=a8f hT.val (a01 H2) hrr;have hrl:r.length<1000000:=hsm.2 r (List.mem_of_getElem? hrr);have e1:(i:Int)<tb.length:=by omega
     have hw:=wI1 (n:=i) (by omega);have hin:=a8t H2 hW hrl (d:=false) t;have hme:=a9z hW hrl hLS.ri (by omega) (d:=false);have hst:=c8x (acc:=acc) (t:=t) hrr;have hnext:∀F':Frm,F'=[(5,A),(6,.int .i64 n),(7,lsV (later tb n [])),(9,lsV gl),(11,V),(12,.int .i64 t),(13,.bool (d2b tb acc t (i+1))),(14,.int .i64 (i+1))]→True:=λ_ _=>trivial;by_cases ha:d2b tb acc t i=true
     ·rw[ha,Bool.true_or]at hst;rw[ha]
      (repeat first|simp only[ww]|(apply xa;simp+decide only[go_sem,hlen,e1,hw];rfl;kernel_rfl))
      refine a0b (tb.length-(i+1)) (by omega) ⟨_,_,?_,i+1,rfl,hlt,rfl,rfl⟩;rw[hst];cases hLS<;>((simp+decide only[go_sem,a03,a00,hAr,hAn,h1r,h1n,h2r,h2n,a2c,a5m]<;>rfl)<;>rfl)
     ·have ha:d2b tb acc t i=false:=by simpa using ha
      rw[ha,Bool.false_or]at hst;rw[ha];unfold d6c at hst;by_cases hc1:r.contains t=true
      ·rw[hc1,Bool.true_and]at hst;rw[hc1]at hin;by_cases hc2:a1d r acc=true
       ·rw[hc2]at hst hme
        (repeat first|simp only[ww]|(apply xa;simp+decide only[go_sem,hlen,e1,hw,hp1,hp2,hin,hme];rfl;kernel_rfl))
        refine a0b (tb.length-(i+1)) (by omega) ⟨_,_,?_,i+1,rfl,hlt,rfl,rfl⟩;rw[hst];cases hLS<;>((simp+decide only[go_sem,a03,a00,hAr,hAn,h1r,h1n,h2r,h2n,a2c,a5m]<;>rfl)<;>rfl)
       ·have hc2:a1d r acc=false:=by simpa using hc2
        rw[hc2]at hst hme
        (repeat first|simp only[ww]|(apply xa;simp+decide only[go_sem,hlen,e1,hw,hp1,hp2,hin,hme];rfl;kernel_rfl))
        refine a0b (tb.length-(i+1)) (by omega) ⟨_,_,?_,i+1,rfl,hlt,rfl,rfl⟩;rw[hst];cases hLS<;>((simp+decide only[go_sem,a03,a00,hAr,hAn,h1r,h1n,h2r,h2n,a2c,a5m]<;>rfl)<;>rfl)
      ·have hc1:r.contains t=false:=by simpa using hc1
       rw[hc1,Bool.false_and]at hst;rw[hc1]at hin
       (repeat first|simp only[ww]|(apply xa;simp+decide only[go_sem,hlen,e1,hw,hp1,hp2,hin];rfl;kernel_rfl))
       refine a0b (tb.length-(i+1)) (by omega) ⟨_,_,?_,i+1,rfl,hlt,rfl,rfl⟩;rw[hst];cases hLS<;>((simp+decide only[go_sem,a03,a00,hAr,hAn,h1r,h1n,h2r,h2n,a2c,a5m]<;>rfl)<;>rfl)
    ·obtain rfl:i=tb.length:=by omega
     have e1:¬(tb.length:Int)<tb.length:=by omega
     rw[d2a];have hlat2:later tb t (if 0<a74 tb acc t then t::acc else acc)=later tb n []:=hlat;by_cases hg:0<a74 tb acc t
     ·rw[if_pos hg]at hlat2;rw[decide_eq_true hg];have hLS2:=hLS;cases hLS with
      |nil h0=>
       subst h0
       (repeat first|simp only[ww]|(apply xa;simp+decide only[go_sem,hlen,e1,htw];rfl;kernel_rfl))
       refine a0b t (by omega) ⟨_,_,?_,t,_,[t],.slice 0 0 1 (some 1),_,rfl,by omega,rfl,rfl,rfl,.blk (some 1) (by simp),by simp only[List.length_cons,List.length_nil]at hal⊢;omega,hlat2⟩
       (simp+decide only[go_sem,a03,a00,hAr,hAn,h1r,h1n,h2r,h2n,List.map_cons,List.map_nil]<;>rfl)<;>rfl
      |blk cc h0=>
       have hcl:=d1m t acc;have hrm:1+acc.length≤1000000000:=by omega
       have hlt2:¬1+acc.length≤1:=by have:=List.length_pos_iff.2 h0;omega
       have hal0:acc.length≤(acc.map a12).length:=by simp
       have htk:=c0k acc
       (repeat first|simp only[ww]|(apply xa;simp+decide only[go_sem,hlen,e1,htw,hrm,hlt2,List.length_map,htk];rfl;kernel_rfl))
       refine a0b t (by omega) ⟨_,_,?_,t,_,t::acc,.slice 0 0 (t::acc).length none,_,rfl,by omega,rfl,rfl,rfl,.blk none (by simp),by rw[hcl];omega,hlat2⟩;rw[hcl]
       (simp+decide only[go_sem,a03,a00,hAr,hAn,h1r,h1n,h2r,h2n,List.map_cons,a2c,a5m]<;>rfl)<;>rfl
     ·rw[if_neg hg]at hlat2;rw[decide_eq_false hg]
      (repeat first|simp only[ww]|(apply xa;simp+decide only[go_sem,hlen,e1,htw];rfl;kernel_rfl))
      refine a0b t (by omega) ⟨_,_,?_,t,_,acc,V,_,rfl,by omega,rfl,rfl,rfl,hLS,by omega,hlat2⟩;cases hLS<;>((simp+decide only[go_sem,a03,a00,hAr,hAn,h1r,h1n,h2r,h2n,a2c,a5m]<;>rfl)<;>rfl)
theorem b33(h:Hint):(b16 h=2↔h = .decreasing)∧(b16 h=1↔h = .increasing):=by cases h<;>decide
def e8f(R:Frm→a04→Prop):a6h:=λe F H=>e=AExit.normal∧R F H
theorem d0a{R:Frm→a04→Prop}{F:Frm}{H:a04}(h:R F H):e8f R .normal F H:=⟨rfl,h⟩
def NrQ(R:Frm→a04→Prop)(H0:a04):a6h:=λe F H=>(e=AExit.normal∧R F H)∨(e=AExit.ret∧H=H0)
theorem e9p{R:Frm→a04→Prop}{H0:a04}{F:Frm}{H:a04}(h:R F H):NrQ R H0 .normal F H:=.inl ⟨rfl,h⟩
theorem f1e{R:Frm→a04→Prop}{H0:a04}{F:Frm}{H:a04}(h:H=H0):NrQ R H0 .ret F H:=.inr ⟨rfl,h⟩
theorem e0s(n:Nat)(c:Option Nat)(rest:List (List AV))(hrest:FlatR rest)(hn1:n≤128):∀(sz:Nat) (d:Array Int) (a b lim:Nat),b-a<sz→n=d.size→a≤b→b≤n→lim≤1000→Below ltInt a b d→
 sem L.env Mf 107 [.slice 0 0 n c,.int .i64 a,.int .i64 b,.int .i64 lim] [some (.row 1 (rwA d++rest))]=some (.tuple [],[some (.row 1 (rwA (pdq ltInt d a b lim true true)++rest))]):=by
 have hls:=λd' H x y=>a4y (d:=d') H x y;have h0:a2p [] = .tuple []:=rfl;intro sz
 induction sz with
 |zero=>intro d a b lim h;omega
 |succ sz IH=>
 intro d a0 b0 lim0 hsz hn hab0 hb0 hlim0 hB0;have f:=a06 (d:=d) hrest;have IHc:=λ(dd:Bool) (d:Array Int) (a b lim:Nat) (h1:b-a<sz) (h2:n=d.size) (h3:a≤b) (h4:b≤n) (h5:lim≤1000) (h6:Below ltInt a b d)=>b0g (d:=dd) (by kernel_rfl) (by kernel_rfl) (a06 (d:=d) hrest) (a06 (d:=pdq ltInt d a b lim true true) hrest) rfl rfl rfl (IH d a b lim h1 h2 h3 h4 h5 h6)
 (refine sv Tryz.f107 ?_;simp only[Tryz.f107,gS])
 (repeat first|simp only[ww]|(apply xa;simp+decide only[go_sem];rfl;kernel_rfl))
 refine a0t kp107_0 (λN F H=>∃(a b lim:Nat) (wb wp:Bool) (e:Array Int),N=b-a∧b-a<sz+1∧e.size=n∧a≤b∧b≤n∧lim≤1000∧Below ltInt a b e∧F=[(0,.slice 0 0 n c),(1,.int .i64 a),(2,.int .i64 b),(3,.int .i64 lim),(8,.bool wb),(9,.bool wp)]∧H=[some (.row 1 (rwA e++rest))]∧pdq ltInt e a b lim wb wp=pdq ltInt d a0 b0 lim0 true true) (b0-a0) ?_ ?_
 ·exact⟨_,_,by(simp+decide only[go_sem,a03,a00,a05 f,a02 _ f]<;>rfl)<;>rfl,a0,b0,lim0,true,true,d,rfl,hsz,hn.symm,hab0,hb0,hlim0,hB0,rfl,rfl,rfl⟩
 ·generalize pdq ltInt d a0 b0 lim0 true true=FIN
  rintro N F H ⟨a,b,lim,wb,wp,e,rfl,hba,he,hab,hb,hlim,hB,rfl,rfl,hR⟩
  have fe:=a06 (d:=e) hrest;rw[e69]at hR;have w1:IntKind.i64.wrap ((b:Int)-a)=((b-a:Nat):Int):=by rw[w64 (by omega) (by omega)];omega
  by_cases h12:b-a≤12
  ·rw[if_pos h12]at hR;have c1:((b-a:Nat):Int)≤12:=by omega
   have k1:=b0g (d:=false) (by kernel_rfl) (by kernel_rfl) fe (a06 (d:=insertionSort ltInt e a b) hrest) rfl rfl rfl (e1j n c e rest a b hrest he.symm hab hb (by omega));rw[←hR];have f2:=a06 (d:=insertionSort ltInt e a b) hrest
   (repeat first|simp only[ww]|(apply xa;simp+decide only[go_sem,w1,c1,k1];rfl;kernel_rfl))
   (apply fqb;simp+decide only[go_sem,h0,a02 _ f2]<;>rfl)
  ·rw[if_neg h12]at hR;have c1:¬((b-a:Nat):Int)≤12:=by omega
   by_cases hl0:lim=0
   ·rw[if_pos hl0]at hR;have c2:(lim:Int)=0:=by omega
    have k1:=b0g (d:=false) (by kernel_rfl) (by kernel_rfl) fe (a06 (d:=heapSort ltInt e a b) hrest) rfl rfl rfl (d6d n c e rest a b hrest he.symm (by omega) hb (by omega));rw[←hR];have f2:=a06 (d:=heapSort ltInt e a b) hrest
    (repeat first|simp only[ww]|(apply xa;simp+decide only[go_sem,w1,c1,c2,k1];rfl;kernel_rfl))
    (apply fqb;simp+decide only[go_sem,h0,a02 _ f2]<;>rfl)
   ·rw[if_neg hl0]at hR;have c2:¬(lim:Int)=0:=by omega
    (repeat first|simp only[ww]|(apply xa;simp+decide only[go_sem,w1,c1,c2];rfl;kernel_rfl))
    -- breakPatterns
    refine b1u (Q:=e8f λF1 H1=>∃(d1:Array Int) (l1:Nat),d1.size=n∧l1≤1000∧Below ltInt a b d1∧a1f F1 0 = .slice 0 0 n c∧a1f F1 1 = .int .i64 a∧a1f F1 2 = .int .i64 b∧a1f F1 3 = .int .i64 l1∧a1f F1 8 = .bool wb∧a1f F1 9 = .bool wp∧a1f F1 10 = .int .i64 (b-a:Nat)∧H1=[some (.row 1 (rwA d1++rest))]∧e4c d1 a b l1 wb wp=FIN) ?_ ?_
    ·cases wb with
     |true=>
      (repeat first|simp only[ww]|(apply xa;simp+decide only[go_sem];rfl;kernel_rfl))
      refine d0a ⟨e,lim,he,hlim,hB,?_,?_,?_,?_,?_,?_,?_,rfl,hR⟩<;>rfl
     |false=>
      have k1:=b0g (d:=false) (by kernel_rfl) (by kernel_rfl) fe (a06 (d:=breakPatterns e a b) hrest) rfl rfl rfl (e81 n c e rest a b hrest he.symm (by omega) hb hn1);have w2:IntKind.i64.wrap ((lim:Int)-1)=((lim-1:Nat):Int):=by rw[w64 (by omega) (by omega)];omega
      have p1:PermIn a b e (breakPatterns e a b):=breakPatterns_holds e a b hab (by omega)
      (repeat first|simp only[ww]|(apply xa;simp+decide only[go_sem,k1,w2];rfl;kernel_rfl))
      refine d0a ⟨_,lim-1,p1.1.trans he,by omega,hB.perm (by omega) p1,?_,?_,?_,?_,?_,?_,?_,rfl,hR⟩<;>rfl
    rintro e1 F1 H1 ⟨rfl,d1,l1,hd1,hl1,hB1,g0,g1,g2,g3,g8,g9,g10,rfl,hR1⟩
    clear hR fe w1;have fe:=a06 (d:=d1) hrest;obtain⟨hc1,hc2⟩:=choosePivot_holds ltInt d1 a b (by omega);unfold e4c at hR1;have k1:=b0g (d:=false) (by kernel_rfl) (by kernel_rfl) fe fe rfl rfl rfl (d08 n c d1 rest a b hrest hd1.symm (by omega) hb (by omega));generalize choosePivot ltInt d1 a b=cp at *;obtain⟨p,hint⟩:=cp
    (repeat first|simp only[ww]|(apply xa;simp+decide only[go_sem,k1,g0,g1,g2];rfl;kernel_rfl))
    -- reverseRange
    refine b1u (Q:=e8f λF2 H2=>∃(d2:Array Int) (p2:Nat) (hint2:Hint),d2.size=n∧a≤p2∧p2<b∧Below ltInt a b d2∧a1f F2 0 = .slice 0 0 n c∧a1f F2 1 = .int .i64 a∧a1f F2 2 = .int .i64 b∧a1f F2 3 = .int .i64 l1∧a1f F2 8 = .bool wb∧a1f F2 9 = .bool wp∧a1f F2 10 = .int .i64 (b-a:Nat)∧a1f F2 11 = .int .i64 p2∧a1f F2 12 = .int .i64 (b16 hint2)∧H2=[some (.row 1 (rwA d2++rest))]∧e0t d2 a b l1 wb wp p2 hint2=FIN) ?_ ?_
    ·by_cases hd:hint = .decreasing
     ·rw[if_pos hd]at hR1;have c3:=(b33 hint).1.2 hd;have k2:=b0g (d:=false) (by kernel_rfl) (by kernel_rfl) fe (a06 (d:=reverseRange d1 a b) hrest) rfl rfl rfl (e0c n c d1 rest a b hrest hd1.symm (by omega) hb (by omega));have p1:PermIn a b d1 (reverseRange d1 a b):=reverseRange_holds d1 a b hab (by omega);have w2:IntKind.i64.wrap ((b:Int)-1)=((b-1:Nat):Int):=by rw[w64 (by omega) (by omega)];omega
      have w3:IntKind.i64.wrap ((p:Int)-a)=((p-a:Nat):Int):=by rw[w64 (by omega) (by omega)];omega
      have w4:IntKind.i64.wrap (((b-1:Nat):Int)-((p-a:Nat):Int))=((b-1-(p-a):Nat):Int):=by rw[w64 (by omega) (by omega)];omega
      (repeat first|simp only[ww]|(apply xa;simp+decide only[go_sem,k2,g0,g1,g2,w2,w3,w4,c3];rfl;kernel_rfl))
      refine d0a ⟨_,b-1-(p-a),.increasing,p1.1.trans hd1,by omega,by omega,hB1.perm (by omega) p1,?_,?_,?_,?_,?_,?_,?_,?_,?_,rfl,hR1⟩<;>first|rfl|assumption
     ·rw[if_neg hd]at hR1;have c3:¬b16 hint=2:=λh=>hd ((b33 hint).1.1 h)
      (repeat first|simp only[ww]|(apply xa;simp+decide only[go_sem,c3];rfl;kernel_rfl))
      refine d0a ⟨d1,p,hint,hd1,hc1,hc2,hB1,?_,?_,?_,?_,?_,?_,?_,?_,?_,rfl,hR1⟩<;>first|rfl|assumption
    clear k1 hR1 hc1 hc2 g0 g1 g2 g3 g8 g9 g10 fe hint
    rintro e1 F2 H2 ⟨rfl,d2,p2,hint,hd2,hp1,hp2,hB2,g0,g1,g2,g3,g8,g9,g10,g11,g12,rfl,hR2⟩
    have fe:=a06 (d:=d2) hrest;unfold e0t at hR2;simp only at hR2;simp only[ww];refine d4f (λF3 H3=>a1f F3 0 = .slice 0 0 n c∧a1f F3 1 = .int .i64 a∧a1f F3 2 = .int .i64 b∧a1f F3 3 = .int .i64 l1∧a1f F3 8 = .bool wb∧a1f F3 9 = .bool wp∧a1f F3 10 = .int .i64 (b-a:Nat)∧a1f F3 11 = .int .i64 p2∧a1f F3 68 = .bool (wb&&wp&&decide (hint = .increasing))∧H3=[some (.row 1 (rwA d2++rest))]) ?_ ?_
    ·have c4:=(b33 hint).2;by_cases hi:hint = .increasing
     ·have c5:=c4.2 hi;cases wb<;>cases wp<;>refine b54 (by simp+decide only[go_sem,g8,g9,g12,c5];rfl) ⟨?_,?_,?_,?_,?_,?_,?_,?_,?_,rfl⟩<;>first|assumption|(simp only[hi];rfl)
     ·have c5:¬b16 hint=1:=λh=>hi (c4.1 h);cases wb<;>cases wp<;>refine b54 (by simp+decide only[go_sem,g8,g9,g12,c5];rfl) ⟨?_,?_,?_,?_,?_,?_,?_,?_,?_,rfl⟩<;>first|assumption|(simp only[hi];rfl)
    clear g0 g1 g2 g3 g8 g9 g10 g11 g12
    rintro F3 H3 ⟨g0,g1,g2,g3,g8,g9,g10,g11,g68,rfl⟩
    -- partialInsertionSort
    trace_state
    (repeat first|simp only[ww]|(apply xa;simp+decide only[go_sem];rfl;kernel_rfl))
    trace_state
    refine b1u (Q:=NrQ (λF4 H4=>∃d3:Array Int,d3.size=n∧Below ltInt a b d3∧a1f F4 0 = .slice 0 0 n c∧a1f F4 1 = .int .i64 a∧a1f F4 2 = .int .i64 b∧a1f F4 3 = .int .i64 l1∧a1f F4 8 = .bool wb∧a1f F4 9 = .bool wp∧a1f F4 10 = .int .i64 (b-a:Nat)∧a1f F4 11 = .int .i64 p2∧H4=[some (.row 1 (rwA d3++rest))]∧e4b d3 a b l1 wb wp p2=FIN) [some (.row 1 (rwA FIN++rest))]) ?_ ?_
    ·generalize(wb&&wp&&decide (hint=Hint.increasing))=t at hR2 g68;cases t with
     |false=>
      rw[if_neg (by simp),if_neg (by simp)]at hR2
      (repeat first|simp only[ww]|(apply xa;simp+decide only[go_sem,g68];rfl;kernel_rfl))
      exact e9p ⟨d2,hd2,hB2,g0,g1,g2,g3,g8,g9,g10,g11,rfl,hR2⟩
     |true=>
      rw[if_pos rfl]at hR2;have p1:=(partialInsertionSort_holds swo_ltInt d2 a b (by omega) (by omega) hB2).1;have k2:=b0g (d:=false) (by kernel_rfl) (by kernel_rfl) fe (a06 (d:=(partialInsertionSort ltInt d2 a b).1) hrest) rfl rfl rfl (d5m n c d2 rest a b hrest hd2.symm (by omega) hb (by omega));generalize partialInsertionSort ltInt d2 a b=pr at *;obtain⟨d3,u⟩:=pr;cases u with
      |true=>
       rw[if_pos rfl]at hR2
       (repeat first|simp only[ww]|(apply xa;simp+decide only[go_sem,g68,k2,g0,g1,g2];rfl;kernel_rfl))
       exact f1e (by rw[←hR2])
      |false=>
       rw[if_neg (by simp)]at hR2
       (repeat first|simp only[ww]|(apply xa;simp+decide only[go_sem,g68,k2,g0,g1,g2];rfl;kernel_rfl))
       refine e9p ⟨d3,p1.1.trans hd2,hB2.perm (by omega) p1,?_,?_,?_,?_,?_,?_,?_,?_,rfl,hR2⟩<;>assumption
    clear g0 g1 g2 g3 g8 g9 g10 g11 g68 hR2 fe
    rintro e1 F4 H4 (⟨rfl,d3,hd3,hB3,g0,g1,g2,g3,g8,g9,g10,g11,rfl,hR3⟩|⟨rfl,rfl⟩)
    rotate_left
    ·have f2:=a06 (d:=FIN) hrest
     (repeat first|simp only[ww]|(apply xa;simp+decide only[go_sem];rfl;kernel_rfl))
     (apply fqb;simp+decide only[go_sem,h0,a02 _ f2]<;>rfl)
    have fe:=a06 (d:=d3) hrest;unfold e4b at hR3;by_cases hq:a>0∧ltInt d3[a-1]! d3[p2]! = false
    · -- partitionEqual
     rw[if_pos (by simp[hq.1,hq.2])]at hR3;obtain⟨r1,r2,r3,r4,-⟩:=round_eq (mid:=(partitionEqual ltInt d3 a b p2).1) (d4:=(partitionEqual ltInt d3 a b p2).2) swo_ltInt (partitionEqual_holds ltInt) hq.1 hp1 hp2 (by omega) hB3 hq.2 rfl;have k2:=b0g (d:=false) (by kernel_rfl) (by kernel_rfl) fe (a06 (d:=(partitionEqual ltInt d3 a b p2).2) hrest) rfl rfl rfl (c6f n c d3 rest a b p2 hrest hd3.symm (by omega) hb (by omega) (by omega));generalize partitionEqual ltInt d3 a b p2=pr at *;obtain⟨mid,d4⟩:=pr;simp only at hR3 r1 r2 r3 r4 k2;rw[if_pos ⟨r1,r2⟩]at hR3;have c6:(0:Int)<a:=by omega
     have w2:IntKind.i64.wrap ((a:Int)-1)=((a-1:Nat):Int):=by rw[w64 (by omega) (by omega)];omega
     have i1:a-1<n:=by omega
     have i2:p2<n:=by omega
     have hl:n≤(rwA d3++rest).length:=by rw[List.length_append,a15];omega
     have s1:=a0c (d:=d3) (rest:=rest) (i:=a-1) (by omega);have s2:=a0c (d:=d3) (rest:=rest) (i:=p2) (by omega);have hlt:=hq.2
     (repeat first|simp only[ww]|(apply xa;simp+decide only[go_sem,g0,g1,g2,g11,c6,w2,i1,i2,hl,s1,s2,hls,hlt,k2];rfl;kernel_rfl))
     refine a0b (b-mid) (by omega) ⟨_,_,?_,mid,b,l1,wb,wp,d4,rfl,by omega,r3.trans hd3,r2,hb,hl1,r4,rfl,rfl,hR3⟩;have f2:=a06 (d:=d4) hrest
     (simp+decide only[go_sem,a03,a00,a05 f2,a02 _ f2,g0,g1,g2,g3,g8,g9]<;>rfl)<;>rfl
    ·rw[if_neg (λh=>hq (by simp only[Bool.and_eq_true,decide_eq_true_eq,Bool.not_eq_true']at h;exact h))]at hR3;have h4:((0:Int)<a∧ltInt d3[a-1]! d3[p2]! = true∧(rwA d3++rest)[a-1]?=some [AV.int .i64 d3[a-1]!]∧IntKind.i64.wrap ((a:Int)-1)=((a-1:Nat):Int)∧a-1<n)∨((¬(0:Int)<a)∧(0:Nat)<1∧(0:Nat)<1∧(0:Nat)<1∧(0:Nat)<1):=by
      by_cases h:a>0
      ·refine .inl ⟨by omega,?_,a0c (by omega),by rw[w64 (by omega) (by omega)];omega,by omega⟩;cases hh:ltInt d3[a-1]! d3[p2]!
       ·exact absurd ⟨h,hh⟩ hq
       ·rfl
      ·exact .inr ⟨by omega,by decide,by decide,by decide,by decide⟩
     obtain⟨r1,r2,r3,r4,r5,r6,r7⟩:=round_part (mid:=(partition ltInt d3 a b p2).1) (ap:=(partition ltInt d3 a b p2).2.1) (d4:=(partition ltInt d3 a b p2).2.2) swo_ltInt (partition_holds ltInt) hp1 hp2 (by omega) hB3 rfl;have k2:=b0g (d:=false) (by kernel_rfl) (by kernel_rfl) fe (a06 (d:=(partition ltInt d3 a b p2).2.2) hrest) rfl rfl rfl (b6k n c d3 rest a b p2 hrest hd3.symm (by omega) hb (by omega) (by omega));generalize partition ltInt d3 a b p2=pr at *;obtain⟨mid,ap,d4⟩:=pr;simp only at hR3 r1 r2 r3 r4 r5 r6 r7 k2;rw[if_pos ⟨r1,r2⟩]at hR3;have i2:p2<n:=by omega
     have hl:n≤(rwA d3++rest).length:=by rw[List.length_append,a15];omega
     have s2:=a0c (d:=d3) (rest:=rest) (i:=p2) (by omega);have w3:IntKind.i64.wrap ((mid:Int)-a)=((mid-a:Nat):Int):=by rw[w64 (by omega) (by omega)];omega
     have w4:IntKind.i64.wrap ((b:Int)-mid)=((b-mid:Nat):Int):=by rw[w64 (by omega) (by omega)];omega
     have w5:IntKind.i64.wrap (((b-a)/8:Nat):Int)=(((b-a)/8:Nat):Int):=w64 (by omega) (by omega);have w6:=wI1 (n:=mid) (by omega);have hz4:=r3.trans hd3;by_cases hm:mid-a<b-mid
     ·have c6:((mid-a:Nat):Int)<((b-mid:Nat):Int):=by omega
      rw[if_pos hm]at hR3;obtain⟨q1,q2⟩:=pdq_sorts ltInt swo_ltInt d4 a mid l1 true true r1 (by omega) r4;have k3:=IHc false d4 a mid l1 (by omega) hz4.symm r1 (by omega) hl1 r4;have r8:=(r6 _ q1 q2).1;have hz5:=q1.1.trans hz4;generalize pdq ltInt d4 a mid l1 true true=d5 at *;have f2:=a06 (d:=d5) hrest;rcases h4 with ⟨d1,d2,d3,d4,d5⟩|⟨d1,d2,d3,d4,d5⟩
      all_goals
       by_cases h8:mid-a≥(b-a)/8
       ·have c7:(((b-a)/8:Nat):Int)≤((mid-a:Nat):Int):=by omega
        rw[decide_eq_true h8]at hR3
        (repeat first|simp only[ww]|(apply xa;simp+decide only[go_sem,g0,g1,g2,g3,g10,g11,d1,d2,d3,d4,d5,i2,hl,s2,hls,k2,w3,w4,w5,w6,c6,c7,k3];rfl;kernel_rfl))
        refine a0b (b-(mid+1)) (by omega) ⟨_,_,?_,mid+1,b,l1,true,ap,_,rfl,by omega,hz5,by omega,hb,hl1,r8,rfl,rfl,hR3⟩
        (simp+decide only[go_sem,a03,a00,a05 f2,a02 _ f2,g0,g1,g2,g3,g8,g9]<;>rfl)<;>rfl
       ·have c7:¬(((b-a)/8:Nat):Int)≤((mid-a:Nat):Int):=by omega
        rw[decide_eq_false h8]at hR3
        (repeat first|simp only[ww]|(apply xa;simp+decide only[go_sem,g0,g1,g2,g3,g10,g11,d1,d2,d3,d4,d5,i2,hl,s2,hls,k2,w3,w4,w5,w6,c6,c7,k3];rfl;kernel_rfl))
        refine a0b (b-(mid+1)) (by omega) ⟨_,_,?_,mid+1,b,l1,false,ap,_,rfl,by omega,hz5,by omega,hb,hl1,r8,rfl,rfl,hR3⟩
        (simp+decide only[go_sem,a03,a00,a05 f2,a02 _ f2,g0,g1,g2,g3,g8,g9]<;>rfl)<;>rfl
     ·have c6:¬((mid-a:Nat):Int)<((b-mid:Nat):Int):=by omega
      rw[if_neg hm]at hR3;obtain⟨q1,q2⟩:=pdq_sorts ltInt swo_ltInt d4 (mid+1) b l1 true true (by omega) (by omega) r5;have k3:=IHc false d4 (mid+1) b l1 (by omega) hz4.symm (by omega) (by omega) hl1 r5;have r8:=(r7 _ q1 q2).1;have hz5:=q1.1.trans hz4;generalize pdq ltInt d4 (mid+1) b l1 true true=d5 at *;have f2:=a06 (d:=d5) hrest;rcases h4 with ⟨d1,d2,d3,d4,d5⟩|⟨d1,d2,d3,d4,d5⟩
      all_goals
       by_cases h8:b-mid≥(b-a)/8
       ·have c7:(((b-a)/8:Nat):Int)≤((b-mid:Nat):Int):=by omega
        rw[decide_eq_true h8]at hR3
        (repeat first|simp only[ww]|(apply xa;simp+decide only[go_sem,g0,g1,g2,g3,g10,g11,d1,d2,d3,d4,d5,i2,hl,s2,hls,k2,w3,w4,w5,w6,c6,c7,k3];rfl;kernel_rfl))
        refine a0b (mid-a) (by omega) ⟨_,_,?_,a,mid,l1,true,ap,_,rfl,by omega,hz5,by omega,by omega,hl1,r8,rfl,rfl,hR3⟩
        (simp+decide only[go_sem,a03,a00,a05 f2,a02 _ f2,g0,g1,g2,g3,g8,g9]<;>rfl)<;>rfl
       ·have c7:¬(((b-a)/8:Nat):Int)≤((b-mid:Nat):Int):=by omega
        rw[decide_eq_false h8]at hR3
        (repeat first|simp only[ww]|(apply xa;simp+decide only[go_sem,g0,g1,g2,g3,g10,g11,d1,d2,d3,d4,d5,i2,hl,s2,hls,k2,w3,w4,w5,w6,c6,c7,k3];rfl;kernel_rfl))
        refine a0b (mid-a) (by omega) ⟨_,_,?_,a,mid,l1,false,ap,_,rfl,by omega,hz5,by omega,by omega,hl1,r8,rfl,rfl,hR3⟩
        (simp+decide only[go_sem,a03,a00,a05 f2,a02 _ f2,g0,g1,g2,g3,g8,g9]<;>rfl)<;>rfl
def c0f(x:Int):List AV:=[.int .i64 x]
def OneR(R:List (List AV)):Prop:=∀r∈R,∃x:Int,r=[AV.int .i64 x]
theorem OneR.flat{R:List (List AV)}(h:OneR R):FlatR R:=λr hr=>by obtain⟨x,rfl⟩:=h r hr;rfl
theorem OneR.app{A B:List (List AV)}(h:OneR A)(k:OneR B):OneR (A++B):=λr hr=>(List.mem_append.1 hr).elim (h r) (k r)
theorem OneR.get{R:List (List AV)}(h:OneR R){i:Nat}(hi:i<R.length):∃x:Int,R[i]?=some [AV.int .i64 x]:=by obtain⟨x,hx⟩:=h _ (List.getElem_mem hi);exact⟨x,by rw[z9e hi,hx]⟩
theorem OneR.set{R:List (List AV)}(h:OneR R)(i:Nat)(x:Int):OneR (R.set i [.int .i64 x]):=λr hr=>by
 rcases List.mem_or_eq_of_mem_set hr with h'|h'
 ·exact h r h'
 ·exact⟨x,h'⟩
theorem OneR.drop{R:List (List AV)}(h:OneR R)(i:Nat):OneR (R.drop i):=λr hr=>h r (List.mem_of_mem_drop hr)
theorem OneR.rep(n:Nat)(x:Int):OneR (List.replicate n [.int .i64 x]):=λr hr=>⟨x,List.eq_of_mem_replicate hr⟩
theorem OneR.intz(l:List Int):OneR (l.map c0f):=λr hr=>by obtain⟨x,_,rfl⟩:=List.mem_map.1 hr;exact⟨x,rfl⟩
theorem d63:(List.range 129).map (λ(n:Nat)=>a5b L.env c1 9 108 [u64 (BitVec.ofInt 64 n)] [])=(List.range 129).map λ(n:Nat)=>some (.int .i64 (bitsLen n:Nat),[]):=by kernel_rfl
theorem d3w(n:Nat)(h:n<129):sem L.env Mf 108 [u64 (BitVec.ofInt 64 n)] []=some (.int .i64 (bitsLen n:Nat),[]):=by have k:=congrArg (λl=>l[n]?) d63;simp only[List.getElem?_map,List.getElem?_range h,Option.map_some,Option.some.injEq]at k;exact a8h e2q (by decide) 9 k
theorem e82(n:Nat)(h:n<129):bitsLen n≤1000:=by
 have hb:(List.range 129).all (λn=>decide (bitsLen n≤1000))=true:=by kernel_rfl
 exact of_decide_eq_true (List.all_eq_true.1 hb n (List.mem_range.2 h))
theorem d4p(n:Nat)(c:Option Nat)(d:Array Int)(rest:List (List AV))(hrest:FlatR rest)(hn:n=d.size)(hn1:n≤128) :
 sem L.env Mf 64 [.slice 0 0 n c] [some (.row 1 (rwA d++rest))]=some (.tuple [],[some (.row 1 (rwA (Go.Sort.sort ltInt d)++rest))]):=by
 have h0:a2p [] = .tuple []:=rfl;have f:=a06 (d:=d) hrest;have hT:Go.Sort.sort ltInt d=pdq ltInt d 0 n (bitsLen n) true true:=by rw[hn];rfl
 have hlen:=λH=>a07 (E:=L.env) (draw:=false) (call:=sem L.env Mf) (g:=108) (fs:=[]) (cs:=[]) (ar:=[u64 (BitVec.ofInt 64 n)]) (H:=H) (by kernel_rfl) (by kernel_rfl) rfl rfl (d3w n (by omega)) rfl;have k:=b0g (d:=false) (by kernel_rfl) (by kernel_rfl) f (a06 (d:=pdq ltInt d 0 n (bitsLen n) true true) hrest) rfl rfl rfl (e0s n c rest hrest hn1 (n+1) d 0 n (bitsLen n) (by omega) hn (Nat.zero_le _) (Nat.le_refl _) (e82 n (by omega)) (.inl rfl));simp only[Int.natCast_zero]at k;rw[hT];have f2:=a06 (d:=pdq ltInt d 0 n (bitsLen n) true true) hrest
 (refine sv Tryz.f64 ?_;simp only[Tryz.f64,gS])
 (repeat first|simp only[ww]|(apply xa;simp+decide only[go_sem,hlen,k];rfl;kernel_rfl))
 (apply fqb;simp+decide only[go_sem,h0,a02 _ f2]<;>rfl)
theorem e6z(c:Option (Option Nat)):sem L.env Mf 139 [sl c [],.int .i64 0,.int .i64 0] []=some (.tuple [],[]):=by
 have h0:a2p [] = .tuple []:=rfl
 (refine sv Tryz.f139 ?_;simp only[Tryz.f139,gS])
 (repeat first|simp only[ww]|(apply xa;simp+decide only[go_sem];rfl;kernel_rfl))
 refine a0t kp139_0 (λN F H=>F=[(0,sl c []),(1,.int .i64 0),(2,.int .i64 0),(6,.int .i64 1)]∧H=[]) 0 ?_ ?_
 ·exact⟨_,_,by(simp+decide only[go_sem,a03,a00]<;>rfl)<;>rfl,rfl,rfl⟩
 ·rintro N F H ⟨rfl,rfl⟩
  (repeat first|simp only[ww]|(apply xa;simp+decide only[go_sem];rfl;kernel_rfl))
  (apply fqb;simp+decide only[go_sem,h0]<;>rfl)
theorem e6a(c:Option (Option Nat)):sem L.env Mf 107 [sl c [],.int .i64 0,.int .i64 0,.int .i64 0] []=some (.tuple [],[]):=by
 have h0:a2p [] = .tuple []:=rfl;have k:=a07 (E:=L.env) (draw:=false) (call:=sem L.env Mf) (g:=139) (fs:=[]) (cs:=[]) (ar:=[sl c [],.int .i64 0,.int .i64 0]) (H:=[]) (by kernel_rfl) (by kernel_rfl) rfl (by simp+decide only[go_sem]<;>rfl) (e6z c) rfl
 (refine sv Tryz.f107 ?_;simp only[Tryz.f107,gS])
 (repeat first|simp only[ww]|(apply xa;simp+decide only[go_sem];rfl;kernel_rfl))
 refine a0t kp107_0 (λN F H=>F=[(0,sl c []),(1,.int .i64 0),(2,.int .i64 0),(3,.int .i64 0),(8,.bool true),(9,.bool true)]∧H=[]) 0 ?_ ?_
 ·exact⟨_,_,by(simp+decide only[go_sem,a03,a00]<;>rfl)<;>rfl,rfl,rfl⟩
 ·rintro N F H ⟨rfl,rfl⟩
  (repeat first|simp only[ww]|(apply xa;simp+decide only[go_sem,k];rfl;kernel_rfl))
  (apply fqb;simp+decide only[go_sem,h0]<;>rfl)
theorem e01(c:Option (Option Nat)):sem L.env Mf 64 [sl c []] []=some (.tuple [],[]):=by
 have h0:a2p [] = .tuple []:=rfl;have hb:bitsLen 0=0:=rfl;have hlen:=a07 (E:=L.env) (draw:=false) (call:=sem L.env Mf) (g:=108) (fs:=[]) (cs:=[]) (ar:=[u64 (BitVec.ofInt 64 (0:Nat))]) (H:=[]) (by kernel_rfl) (by kernel_rfl) rfl rfl (d3w 0 (by omega)) rfl;rw[hb]at hlen;simp only[Int.natCast_zero]at hlen;have k:=a07 (E:=L.env) (draw:=false) (call:=sem L.env Mf) (g:=107) (fs:=[]) (cs:=[]) (ar:=[sl c [],.int .i64 0,.int .i64 0,.int .i64 0]) (H:=[]) (by kernel_rfl) (by kernel_rfl) rfl (by simp+decide only[go_sem]<;>rfl) (e6a c) rfl;have e0:((0:Nat):Int)=0:=rfl
 (refine sv Tryz.f64 ?_;simp only[Tryz.f64,gS])
 (repeat first|simp only[ww]|(apply xa;simp+decide only[go_sem,hlen,k,e0];rfl;kernel_rfl))
 (apply fqb;simp+decide only[go_sem,h0]<;>rfl)
theorem d02(l:List Int):rwA l.toArray=l.map c0f:=rfl
theorem e61(l:List Int):rwA (Go.Sort.sort ltInt l.toArray)=(l.mergeSort λx y=>decide (x≤y)).map c0f:=by have h:=Go.Sort.sortInt l;unfold rwA;rw[h];rfl
theorem c4v(S:List Int)(rest:List (List AV))(c:Option Nat)(hrest:OneR rest)(hS:S.length≤1000)(hcc:∀m,c=some m→S.length≤m) :
 ∃r:AV×a04,(∃rest',OneR rest'∧r=(.slice 0 0 (dd S).length c,[some (.row 1 ((dd S).map c0f++rest'))]))∧sem L.env Mf 65 [.slice 0 0 S.length c] [some (.row 1 (S.map c0f++rest))]=some r:=by
 have hR1:OneR (S.map c0f++rest):=(OneR.intz S).app hrest;have hR:∀(j:Nat) (i:Int),S[j]?=some i→(S.map c0f++rest)[j]?=some [AV.int .i64 i]:=by intro j i h;rw[List.getElem?_append_left (by simpa using(List.getElem?_eq_some_iff.1 h).1),List.getElem?_map,h];rfl
 have hRl:S.length≤(S.map c0f++rest).length:=by simp
 have hRt:(S.map c0f++rest).take S.length=S.map c0f:=by rw[List.take_append_of_le_length (by simp),List.take_of_length_le (by simp)]
 have hcl:e7v L.env 34=some (1,[.int .i64 0]):=by kernel_rfl
 have hsame:dd S=S→∃rest',OneR rest'∧S.map c0f++rest=(dd S).map c0f++rest':=λh=>⟨rest,hrest,by rw[h]⟩
 generalize hRR:S.map c0f++rest=R at hR1 hR hRl hRt hsame⊢;have hRr:=λπ=>a02 π hR1.flat;have hR0:=a05 hR1.flat;by_cases h2:S.length<2
 ·have d1:(S.length:Int)<2:=by omega
  have hd:dd S=S:=by
   match S,h2 with
   | [],_=>rfl
   | [x],_=>rfl
  obtain⟨rest',hr',he⟩:=hsame hd
  (refine svE Tryz.f65 ?_;simp only[Tryz.f65,gS])
  (repeat first|simp only[ww]|(apply xa;simp+decide only[go_sem,d1];rfl;kernel_rfl))
  (apply e7c;(·simp+decide only[go_sem,hRr]<;>rfl))
  exact⟨rest',hr',by rw[he,hd]⟩
 ·have d1:¬(S.length:Int)<2:=by omega
  (refine svE Tryz.f65 ?_;simp only[Tryz.f65,gS])
  (repeat first|simp only[ww]|(apply xa;simp+decide only[go_sem,d1];rfl;kernel_rfl))
  refine a3i (σ:=Nat) kp65_0 (λk=>[(0,.slice 0 0 S.length c),(3,.int .i64 k)]) (λk=>[some (.row 1 R)]) (λk=>S.length-k) (λk=>1≤k∧k≤S.length∧dd (S.take k)=S.take k) 1 ?_ ⟨Nat.le_refl _,by omega,?_⟩ ?_
  ·(simp+decide only[go_sem,a03,a00,hR0,hRr]<;>rfl)<;>rfl
  ·obtain⟨x,l,rfl⟩:∃x l,S=x::l:=by
    cases S with
    |nil=>simp at h2
    |cons x l=>exact⟨x,l,rfl⟩
   rfl
  ·rintro k ⟨hk1,hk2,hkd⟩
   by_cases hlt:k<S.length
   ·obtain⟨j,rfl⟩:∃j,k=j+1:=⟨k-1,by omega⟩
    obtain⟨x,hx⟩:∃x,S[j+1]?=some x:=⟨_,z9e hlt⟩
    obtain⟨y,hy⟩:∃y,S[j]?=some y:=⟨_,z9e (by omega)⟩
    have hgx:=hR _ _ hx;have hgy:=hR _ _ hy;have d2:((j+1:Nat):Int)<S.length:=by omega
    have hj:j<S.length:=by omega
    have hw:=wI1 (n:=j+1) (by omega);have hwm:IntKind.i64.wrap (((j+1:Nat):Int)-1)=(j:Int):=by rw[w64 (by omega) (by omega)];omega
    have hdt:=c82 hy hx;by_cases hxy:x=y
    ·rw[if_pos hxy,hkd,List.append_nil]at hdt;have d4:j+1≤S.length:=by omega
     have hcap:S.length≤a17 S.length c:=by
      cases c with
      |none=>exact Nat.le_refl _
      |some m=>exact hcc m rfl
     have hcap2:j+1≤a17 S.length c:=by omega
     (repeat first|simp only[ww]|(apply xa;simp+decide only[go_sem,d2,hlt,hj,hRl,hgx,hgy,hw,hwm,hxy,d4,hcap,hcap2];rfl;kernel_rfl))
     obtain⟨m,hm⟩:∃m,m=S.length-(j+1):=⟨_,rfl⟩
     refine a0t kp65_2 (λN F H=>∃(k q:Nat) (R':List (List AV)),N=m-q∧F=[(0,.slice 0 0 S.length c),(3,.int .i64 k),(4,.slice 0 (j+1) (S.length-(j+1)) (c.map λm=>m-(j+1))),(5,.int .i64 q)]∧H=[some (.row 1 R')]∧1≤q∧q≤m∧k<j+1+q∧R'.length=R.length∧OneR R'∧
      R'.take k=(dd (S.take (j+1+q))).map c0f∧(dd (S.take (j+1+q))).length=k∧∀x,k≤x→R'[x]?=R[x]?) (m-1) ?_ ?_
     ·refine⟨_,_,by(simp+decide only[go_sem,a03,a00,hR0,hRr]<;>rfl)<;>rfl,j+1,1,R,rfl,rfl,rfl,Nat.le_refl _,by omega,by omega,rfl,hR1,?_,?_,λ_ _=>rfl⟩
      ·rw[hdt,List.map_take,←hRt,List.take_take,Nat.min_eq_left (by omega)]
      ·rw[hdt,List.length_take];omega
     ·rintro N F1 H1 ⟨k,q,R',rfl,rfl,rfl,hq1,hq2,hkq,hRl',hR1',hRt',hkl,hRx⟩
      have hRr':=λπ=>a02 π hR1'.flat;have hR0':=a05 hR1'.flat;by_cases hqm:q<m
      ·obtain⟨u,hu⟩:∃u,S[j+1+q]?=some u:=⟨_,z9e (by omega)⟩
       obtain⟨v,hv⟩:∃v,S[j+q]?=some v:=⟨_,z9e (by omega)⟩
       have hgu:R'[j+1+q]?=some [AV.int .i64 u]:=by rw[hRx _ (by omega)];exact hR _ _ hu
       have hgv:R'[j+1+(q-1)]?=some [AV.int .i64 v]:=by rw[show j+1+(q-1)=j+q by omega,hRx _ (by omega)];exact hR _ _ hv
       have c1:(q:Int)<(S.length-(j+1):Nat):=by omega
       have c2:q<S.length-(j+1):=by omega
       have c3:q-1<S.length-(j+1):=by omega
       have c4:j+1+(S.length-(j+1))≤R'.length:=by omega
       have hwq:=wI1 (n:=q) (by omega);have hwq1:IntKind.i64.wrap ((q:Int)-1)=((q-1:Nat):Int):=by rw[w64 (by omega) (by omega)];omega
       have hdq:dd (S.take (j+1+(q+1)))=dd (S.take (j+1+q))++if u=v then[]else[u]:=by rw[show j+1+(q+1)=j+q+2 by omega,show j+1+q=j+q+1 by omega];exact c82 hv (by rw[show j+q+1=j+1+q by omega];exact hu)
       by_cases huv:u=v
       ·rw[if_pos huv,List.append_nil]at hdq
        (repeat first|simp only[ww]|(apply xa;simp+decide only[go_sem,c1,c2,c3,c4,hgu,hgv,hwq,hwq1,huv];rfl;kernel_rfl))
        refine a0b (m-(q+1)) (by omega) ⟨_,_,by(simp+decide only[go_sem,a03,a00,hR0',hRr']<;>rfl)<;>rfl,k,q+1,R',rfl,rfl,rfl,by omega,by omega,by omega,hRl',hR1',by rw[hdq];exact hRt',by rw[hdq];exact hkl,hRx⟩
       ·rw[if_neg huv]at hdq;have c5:k<S.length:=by omega
        have c6:S.length≤R'.length:=by omega
        have hwk:=wI1 (n:=k) (by omega);have hR2:=hR1'.set k u;have hRr2:=λπ=>a02 π hR2.flat;have hR02:=a05 hR2.flat;obtain⟨y0,hgk⟩:=hR1'.get (i:=k) (by omega)
        (repeat first|simp only[ww]|(apply xa;simp+decide only[go_sem,c1,c2,c3,c4,hgu,hgv,hwq,hwq1,huv,c5,c6,hwk,hgk];rfl;kernel_rfl))
        refine a0b (m-(q+1)) (by omega) ⟨_,_,by(simp+decide only[go_sem,a03,a00,hR02,hRr2]<;>rfl)<;>rfl,k+1,q+1,_,rfl,rfl,rfl,by omega,by omega,by omega,by rw[List.length_set];exact hRl',hR2,?_,?_,λx hx=>by rw[List.getElem?_set_ne (by omega)];exact hRx x (by omega)⟩
        ·rw[hdq,List.take_add_one,List.getElem?_set_self (by omega),List.take_set_of_le (Nat.le_refl k),hRt',List.map_append];rfl
        ·rw[hdq,List.length_append,hkl];rfl
      ·obtain rfl:q=m:=by omega
       have c1:¬(q:Int)<(S.length-(j+1):Nat):=by omega
       have c2:¬S.length-k=0:=by omega
       have c3:k+(S.length-k)≤R'.length:=by omega
       have c4:k≤S.length:=by omega
       have c5:k≤a17 S.length c:=by omega
       have hall:S.take (j+1+q)=S:=List.take_of_length_le (by omega);rw[hall]at hRt' hkl;have hrest2:OneR (List.replicate (S.length-k) [AV.int .i64 0]++R'.drop (k+(S.length-k))):=(OneR.rep _ _).app (hR1'.drop _)
       (repeat first|simp only[ww]|(apply xa;simp+decide only[go_sem,c1,c2,c3,c4,c5,hcl,hcap,hRt',List.append_assoc];rfl;kernel_rfl))
       have hfin:=λπ=>a02 π ((OneR.intz (dd S)).app hrest2).flat
       (apply e7c;(·simp+decide only[go_sem,hfin]<;>rfl))
       exact⟨_,hrest2,by rw[hkl]⟩
    ·rw[if_neg hxy,hkd]at hdt
     (repeat first|simp only[ww]|(apply xa;simp+decide only[go_sem,d2,hlt,hj,hRl,hgx,hgy,hw,hwm,hxy];rfl;kernel_rfl))
     refine b0s (j+1+1) ?_ (by omega) ⟨by omega,by omega,?_⟩
     ·(simp+decide only[go_sem,a03,a00,hR0,hRr]<;>rfl)<;>rfl
     ·rw[hdt,c0j hx]
   ·obtain rfl:k=S.length:=by omega
    have d2:¬(S.length:Int)<S.length:=by omega
    rw[List.take_length]at hkd;obtain⟨rest',hr',he⟩:=hsame hkd
    (repeat first|simp only[ww]|(apply xa;simp+decide only[go_sem,d2];rfl;kernel_rfl))
    (apply e7c;(·simp+decide only[go_sem,hRr]<;>rfl))
    exact⟨rest',hr',by rw[he,hkd]⟩
noncomputable def cP:CallF:=λg args H=>if g=104 then a5b L.env c0 9 g args H else none
noncomputable def cT:CallF:=λg args H=>if g=106 then a5b L.env c0 9 g args H else none
theorem e7x:∀g args H r,cP g args H=some r→sem L.env Mf g args H=some r:=by
 intro g args H r h;unfold cP at h;split at h
 ·rename_i e;subst e;exact a8h (λ_ _ _ _ h=>by cases h) (by decide) 9 h
 ·cases h
theorem e7w:∀g args H r,cT g args H=some r→sem L.env Mf g args H=some r:=by
 intro g args H r h;unfold cT at h;split at h
 ·rename_i e;subst e;exact a8h (λ_ _ _ _ h=>by cases h) (by decide) 9 h
 ·cases h
theorem d5k:(List.range 256).map (λ(n:Nat)=>a5b L.env cP 9 62 [u64 (BitVec.ofNat 64 n)] [])=(List.range 256).map λ(n:Nat)=>some (.int .i64 (b0q n:Nat),[]):=by kernel_rfl
theorem c2j{d:Bool}(H:a04)(n:Nat)(h:n<256):a0d L.env d (sem L.env Mf) (.func (.func 62) [] []) [u64 (BitVec.ofNat 64 n)] H=some (.int .i64 (b0q n:Nat),H,[]):=by have k:=congrArg (λl=>l[n]?) d5k;simp only[List.getElem?_map,List.getElem?_range h,Option.map_some,Option.some.injEq]at k;exact a07 (by kernel_rfl) (by kernel_rfl) rfl rfl (a8h e7x (by decide) 9 k) rfl
theorem d9p:(List.range 256).map (λ(n:Nat)=>a5b L.env cT 9 63 [u64 (BitVec.ofNat 64 n)] [])=(List.range 256).map λ(n:Nat)=>some (.int .i64 (tzN n:Nat),[]):=by kernel_rfl
theorem d4j{d:Bool}(H:a04)(n:Nat)(h:n<256):a0d L.env d (sem L.env Mf) (.func (.func 63) [] []) [u64 (BitVec.ofNat 64 n)] H=some (.int .i64 (tzN n:Nat),H,[]):=by have k:=congrArg (λl=>l[n]?) d9p;simp only[List.getElem?_map,List.getElem?_range h,Option.map_some,Option.some.injEq]at k;exact a07 (by kernel_rfl) (by kernel_rfl) rfl rfl (a8h e7w (by decide) 9 k) rfl
/-! small numbers as words -/
def bR(m:Nat):List AV:=[u64 (BitVec.ofNat 64 m)]
theorem b4a(l:List Nat):FlatR (l.map bR):=FlatR.map λ_=>rfl
section
variable {E:Env}{t:TypeId}{c:Bool}{a b:Nat}
theorem a78(h:a<18446744073709551616):(BitVec.ofNat 64 a).toNat=a:=by rw[BitVec.toNat_ofNat];exact Nat.mod_eq_of_lt h
theorem e2w(ha:a<18446744073709551616)(hb:b<18446744073709551616):a4h E .lss t (u64 (BitVec.ofNat 64 a)) (u64 (BitVec.ofNat 64 b)) c=some (.bool (decide (a<b))):=by simp only[u64,d2t,a78 ha,a78 hb];simp
theorem e2x(ha:a<18446744073709551616)(hb:b<18446744073709551616):a4h E .gtr t (u64 (BitVec.ofNat 64 a)) (u64 (BitVec.ofNat 64 b)) c=some (.bool (decide (b<a))):=by simp only[u64,d2u,a78 ha,a78 hb];simp
theorem c54(ha:a<18446744073709551616)(hb:b<18446744073709551616):(BitVec.ofNat 64 a=BitVec.ofNat 64 b)=(a=b):=by
 rw[eq_iff_iff];constructor
 ·intro h;have:=congrArg BitVec.toNat h
  rwa [a78 ha,a78 hb]at this
 ·rintro rfl;rfl
theorem e2y:BitVec.ofNat 64 a&&&BitVec.ofNat 64 b=BitVec.ofNat 64 (a&&&b):=by apply BitVec.eq_of_toNat_eq;simp[Nat.and_mod_two_pow]
theorem f04:BitVec.ofNat 64 a|||BitVec.ofNat 64 b=BitVec.ofNat 64 (a|||b):=by apply BitVec.eq_of_toNat_eq;simp[Nat.or_mod_two_pow]
theorem e84:BitVec.ofNat 64 a^^^BitVec.ofNat 64 b=BitVec.ofNat 64 (a^^^b):=by apply BitVec.eq_of_toNat_eq;simp[Nat.xor_mod_two_pow]
theorem e2u(h:a<64):1#64<<<a=BitVec.ofNat 64 (2^a):=by apply BitVec.eq_of_toNat_eq;simp[Nat.shiftLeft_eq]
theorem d7e(h:a<18446744073709551616):BitVec.ofNat 64 a>>>b=BitVec.ofNat 64 (a/2^b):=by apply BitVec.eq_of_toNat_eq;rw[BitVec.toNat_ushiftRight,a78 h,a78 (Nat.lt_of_le_of_lt (Nat.div_le_self _ _) h),Nat.shiftRight_eq_div_pow]
theorem d46:BitVec.ofNat 64 a+1#64=BitVec.ofNat 64 (a+1):=by apply BitVec.eq_of_toNat_eq;simp
theorem d7f:BitVec.ofNat 64 a&&&1#64=BitVec.ofNat 64 (a%2):=by rw[e2y,Nat.and_one_is_mod]
end
theorem bi0:BitVec.ofInt 64 0=BitVec.ofNat 64 0:=by rfl
theorem bi1:BitVec.ofInt 64 1=BitVec.ofNat 64 1:=by rfl
theorem e2v{E:Env}{t:TypeId}{c:Bool}(x y:BitVec 64):a4h E .neq t (u64 x) (u64 y) c=some (.bool (!decide (x=y))):=by
 simp only[u64,d2s]
 congr 2
 rw[Bool.eq_iff_iff];simp only[Bool.not_eq_true',decide_eq_false_iff_not];constructor
 ·intro h e;exact h (by rw[e])
 ·intro h e;exact h (BitVec.eq_of_toNat_eq (by omega))
theorem e1b(m x:Nat)(hm:m<18446744073709551616):sem L.env Mf 60 [u64 (BitVec.ofNat 64 m),.ptr 0 0 0] [some (.row 1 [bR x])]=some (.bool (decide (m&&&x=0)),[some (.row 1 [bR x])]):=by
 have h:=c54 (a:=m&&&x) (b:=0) (Nat.lt_of_le_of_lt Nat.and_le_left hm) (by omega)
 (refine sv Tryz.f60 ?_;simp only[Tryz.f60,gS])
 (repeat first|simp only[ww]|(apply xa;simp+decide only[go_sem,bR,e2y,bi0,h];rfl;kernel_rfl))
 (apply fqb;simp+decide only[go_sem,bR]<;>rfl)
theorem d0t{d:Bool}(m x:Nat)(hm:m<18446744073709551616):a0d L.env d (sem L.env Mf) (.func (.func 60) [] [.ptr 0 0 0]) [u64 (BitVec.ofNat 64 m)] [some (.row 1 [bR x])]=some (.bool (decide (m&&&x=0)),[some (.row 1 [bR x])],[0]):=a1b (fs:=[]) (cs:=[.ptr 0 0 0]) (args:=[u64 (BitVec.ofNat 64 m),.ptr 0 0 0]) (b:=0) (by kernel_rfl) (by kernel_rfl) rfl rfl rfl (FlatO.row (FlatR.cons rfl FlatR.nil)) rfl rfl (e1b m x hm) rfl
theorem e2z{ms:List Nat}{i m:Nat}{rest:List (List AV)}(h:ms[i]?=some m):(ms.map bR++rest)[i]?=some (bR m):=by rw[List.getElem?_append_left (by simpa using(List.getElem?_eq_some_iff.1 h).1),List.getElem?_map,h];rfl
def c7h(x m:Nat):Bool:=decide (m&&&x=0)
theorem d6b(ms:List Nat)(c:Option Nat)(x:Nat)(hm:∀m∈ms,m<18446744073709551616)(hl:ms.length<1000000) :
 ∃r:AV×a04,(∃i:Int,r=(.int .i64 i,[some (.row 1 [bR x])])∧(decide (0≤i))=ms.any (c7h x))∧sem L.env Mf 102 [.islice (ms.map bR) c,.func (.func 60) [] [.ptr 0 0 0]] [some (.row 1 [bR x])]=some r:=by
 have hfx:FlatR [bR x]:=FlatR.cons rfl FlatR.nil;have hmr:(ms.map bR).flatMap a0a=[]:=a05 (b4a ms)
 (refine svE Tryz.f102 ?_;simp only[Tryz.f102,gS])
 (repeat first|simp only[ww]|(apply xa;simp+decide only[go_sem,List.length_map];rfl;kernel_rfl))
 refine a0t kp102_0 (λq F H1=>∃i:Nat,q=ms.length-i∧i≤ms.length∧F=[(0,.islice (ms.map bR) c),(1,.func (.func 60) [] [.ptr 0 0 0]),(7,.int .i64 ms.length),(8,.int .i64 i)]∧H1=[some (.row 1 [bR x])]∧(ms.take i).any (c7h x)=false) ms.length ?_ ?_
 ·refine⟨_,_,?_,0,rfl,Nat.zero_le _,rfl,rfl,rfl⟩
  (simp+decide only[go_sem,a03,a00,a05 hfx,a02 _ hfx]<;>rfl)<;>rfl
 ·rintro q F H1 ⟨i,rfl,hi,rfl,rfl,hno⟩
  by_cases hlt:i<ms.length
  ·obtain⟨m,hmg⟩:∃m,ms[i]?=some m:=⟨_,z9e hlt⟩
   have hg:(ms.map bR)[i]?=some [u64 (BitVec.ofNat 64 m)]:=by rw[List.getElem?_map,hmg];rfl
   have hmm:=hm m (List.mem_of_getElem? hmg);have hcl:a0d L.env false (sem L.env Mf) (.func (.func 60) [] [.ptr 0 0 0]) [u64 (BitVec.ofNat 64 m)] [some (.row 1 [[u64 (BitVec.ofNat 64 x)]])]=some (.bool (decide (m&&&x=0)),[some (.row 1 [[u64 (BitVec.ofNat 64 x)]])],[0]):=d0t (d:=false) m x hmm;have c1:(i:Int)<ms.length:=by omega
   have hw:=wI1 (n:=i) (by omega);have hta:(ms.take (i+1)).any (c7h x)=c7h x m:=by rw[List.take_add_one,hmg,List.any_append,hno];simp
   by_cases hz:m&&&x=0
   ·rw[decide_eq_true hz]at hcl
    (repeat first|simp only[ww]|(apply xa;simp+decide only[go_sem,c1,hlt,hg,hcl,List.length_map,bR];rfl;kernel_rfl))
    refine a3q (vs:=[.int .i64 i]) (r:=(_,_)) (by simp+decide only[go_sem]) (by simp+decide only[go_sem,a0j]<;>rfl) ⟨i,rfl,?_⟩;rw[decide_eq_true (by omega)];refine(List.any_eq_true.2 ⟨m,List.mem_of_getElem? hmg,?_⟩).symm;exact decide_eq_true hz
   ·rw[decide_eq_false hz]at hcl
    (repeat first|simp only[ww]|(apply xa;simp+decide only[go_sem,c1,hlt,hg,hcl,hw,List.length_map,bR];rfl;kernel_rfl))
    refine a0b (ms.length-(i+1)) (by omega) ⟨_,_,?_,i+1,rfl,hlt,rfl,rfl,by rw[hta];exact decide_eq_false hz⟩
    (simp+decide only[go_sem,a03,a00,bR]<;>rfl)<;>rfl
  ·obtain rfl:i=ms.length:=by omega
   have c1:¬(ms.length:Int)<ms.length:=by omega
   rw[List.take_length]at hno
   (repeat first|simp only[ww]|(apply xa;simp+decide only[go_sem,c1,bR];rfl;kernel_rfl))
   refine a32 (vs:=[.int .i64 (-1)]) (r:=(_,_)) (by simp+decide only[go_sem]) (by simp+decide only[go_sem,a0j]<;>rfl) ⟨-1,rfl,?_⟩;rw[hno];rfl
theorem d78(ms:List Nat)(c:Option Nat)(x:Nat)(hm:∀m∈ms,m<18446744073709551616)(hl:ms.length<1000000) :
 sem L.env Mf 59 [.islice (ms.map bR) c,.func (.func 60) [] [.ptr 0 0 0]] [some (.row 1 [bR x])]=some (.bool (ms.any (c7h x)),[some (.row 1 [bR x])]):=by
 obtain⟨r,⟨i,rfl,hi⟩,h⟩:=d6b ms c x hm hl;have hmr:(ms.map bR).flatMap a0a=[]:=a05 (b4a ms);have hc:=a1b (E:=L.env) (draw:=false) (call:=sem L.env Mf) (g:=102) (fs:=[]) (cs:=[]) (ar:=[.islice (ms.map bR) c,.func (.func 60) [] [.ptr 0 0 0]]) (H:=[some (.row 1 [bR x])]) (b:=0) (by kernel_rfl) (by kernel_rfl) rfl rfl rfl (FlatO.row (FlatR.cons rfl FlatR.nil)) rfl rfl h rfl;rw[←hi];simp only[show bR x=[u64 (BitVec.ofNat 64 x)]from rfl]at hc⊢
 (refine sv Tryz.f59 ?_;simp only[Tryz.f59,gS])
 (repeat first|simp only[ww]|(apply xa;simp+decide only[go_sem,hc];rfl;kernel_rfl))
 (apply fqb;simp+decide only[go_sem]<;>rfl)
theorem e1a(ms:List Nat)(c:Option Nat)(x:Nat)(hm:∀m∈ms,m<18446744073709551616)(hl:ms.length<1000000) :
 sem L.env Mf 58 [u64 (BitVec.ofNat 64 x),.iptr [.islice (ms.map bR) c]] []=some (.bool (!ms.any (c7h x)),[]):=by
 have h:=d78 ms c x hm hl;have hc:=a1b (E:=L.env) (draw:=false) (call:=sem L.env Mf) (g:=59) (fs:=[]) (cs:=[]) (ar:=[.islice (ms.map bR) c,.func (.func 60) [] [.ptr 0 0 0]]) (H:=[some (.row 1 [bR x])]) (b:=0) (by kernel_rfl) (by kernel_rfl) rfl rfl rfl (FlatO.row (FlatR.cons rfl FlatR.nil)) rfl rfl h rfl;simp only[show bR x=[u64 (BitVec.ofNat 64 x)]from rfl]at hc
 (refine sv Tryz.f58 ?_;simp only[Tryz.f58,gS])
 (repeat first|simp only[ww]|(apply xa;simp+decide only[go_sem,hc];rfl;kernel_rfl))
 (apply fqb;simp+decide only[go_sem]<;>rfl)
theorem d66{d:Bool}(H:a04)(ms:List Nat)(c:Option Nat)(x:Nat)(hm:∀m∈ms,m<18446744073709551616)(hl:ms.length<1000000) :
 a0d L.env d (sem L.env Mf) (.func (.func 58) [] [.iptr [.islice (ms.map bR) c]]) [u64 (BitVec.ofNat 64 x)] H=some (.bool (!ms.any (c7h x)),H,[]):=
 a07 (by kernel_rfl) (by kernel_rfl) rfl (by rfl) (e1a ms c x hm hl) rfl
theorem e6u(x y:Nat)(hx:x<256)(hy:y<256):sem L.env Mf 61 [u64 (BitVec.ofNat 64 x),u64 (BitVec.ofNat 64 y)] []=some (.bool (c3m x y),[]):=by
 have h1:=λH=>c2j (d:=false) H x hx;have h2:=λH=>c2j (d:=false) H y hy;have hxy:x^^^y<256:=Nat.xor_lt_two_pow (n:=8) hx hy;have h3:=λH=>d4j (d:=false) H (x^^^y) hxy;have e1:=c54 (a:=x) (b:=y) (by omega) (by omega);have e0:((tzN (x^^^y):Int)<0)=False:=eq_false (by omega);have e2:=d7e (a:=x) (b:=tzN (x^^^y)) (by omega);have e3:=d7f (a:=x/2^tzN (x^^^y));have e4:=c54 (a:=x/2^tzN (x^^^y)%2) (b:=1) (by omega) (by omega);unfold c3m;by_cases c1:b0q x<b0q y
 ·have d1:(b0q x:Int)<b0q y:=by omega
  rw[decide_eq_true c1]
  (refine sv Tryz.f61 ?_;simp only[Tryz.f61,gS])
  (repeat first|simp only[ww]|(apply xa;simp+decide only[go_sem,h1,h2,d1];rfl;kernel_rfl))
  (apply fqb;simp+decide only[go_sem]<;>rfl)
 ·have d1:¬(b0q x:Int)<b0q y:=by omega
  rw[decide_eq_false c1];by_cases c2:b0q x=b0q y
  ·have d2:((b0q x:Int)=b0q y)=True:=eq_true (by omega);rw[decide_eq_true c2];by_cases c3:x=y
   ·subst c3;rw[decide_eq_true (rfl:x=x)]
    (refine sv Tryz.f61 ?_;simp only[Tryz.f61,gS])
    (repeat first|simp only[ww]|(apply xa;simp+decide only[go_sem,h1,d1,e2v];rfl;kernel_rfl))
    (apply fqb;simp+decide only[go_sem]<;>rfl)
   ·rw[decide_eq_false c3]
    (refine sv Tryz.f61 ?_;simp only[Tryz.f61,gS])
    (repeat first|simp only[ww]|(apply xa;simp+decide only[go_sem,h1,h2,d1,d2,e1,c3,e2v,bi1,e84,h3,e0,Int.toNat_natCast,e2,e3,e4];rfl;kernel_rfl))
    (apply fqb;simp+decide only[go_sem]<;>rfl)
  ·have d2:¬(b0q x:Int)=b0q y:=by omega
   rw[decide_eq_false c2]
   (refine sv Tryz.f61 ?_;simp only[Tryz.f61,gS])
   (repeat first|simp only[ww]|(apply xa;simp+decide only[go_sem,h1,h2,d1,d2];rfl;kernel_rfl))
   (apply fqb;simp+decide only[go_sem]<;>rfl)
theorem d65{d:Bool}(H:a04)(x y:Nat)(hx:x<256)(hy:y<256):a0d L.env d (sem L.env Mf) (.func (.func 61) [] []) [u64 (BitVec.ofNat 64 x),u64 (BitVec.ofNat 64 y)] H=some (.bool (c3m x y),H,[]):=a07 (by kernel_rfl) (by kernel_rfl) rfl rfl (e6u x y hx hy) rfl
theorem e1l(ms:List Nat)(c:Option Nat)(rest:List (List AV))(hrest:FlatR rest)(x:Nat)(hx:x<18446744073709551616)(hm:∀m∈ms,m<18446744073709551616)(hl:ms.length<1000000) :
 ∃r:AV×a04,(∃i:Int,r=(.int .i64 i,[some (.row 1 (ms.map bR++rest))])∧(decide (0≤i))=ms.contains x)∧sem L.env Mf 101 [.slice 0 0 ms.length c,u64 (BitVec.ofNat 64 x)] [some (.row 1 (ms.map bR++rest))]=some r:=by
 have hfl:=(b4a ms).append hrest;have h0:=a05 hfl;have h1:=λπ=>a02 π hfl;have hle:ms.length≤(ms.map bR++rest).length:=by simp
 have hg:∀i m,ms[i]?=some m→(ms.map bR++rest)[i]?=some (bR m):=λi m h=>e2z h;generalize ms.map bR++rest=R at h0 h1 hle hg⊢
 (refine svE Tryz.f101 ?_;simp only[Tryz.f101,gS])
 (repeat first|simp only[ww]|(apply xa;simp+decide only[go_sem];rfl;kernel_rfl))
 refine a0t kp101_0 (λq F H1=>∃i:Nat,q=ms.length-i∧i≤ms.length∧F=[(0,.slice 0 0 ms.length c),(1,u64 (BitVec.ofNat 64 x)),(7,.int .i64 ms.length),(8,.int .i64 i)]∧H1=[some (.row 1 R)]∧(ms.take i).contains x=false) ms.length ?_ ?_
 ·refine⟨_,_,?_,0,rfl,Nat.zero_le _,rfl,rfl,rfl⟩
  (simp+decide only[go_sem,a03,a00,h0,h1]<;>rfl)<;>rfl
 ·rintro q F H1 ⟨i,rfl,hi,rfl,rfl,hno⟩
  by_cases hlt:i<ms.length
  ·obtain⟨m,hmg⟩:∃m,ms[i]?=some m:=⟨_,z9e hlt⟩
   have hgm:=hg i m hmg;have hmm:=hm m (List.mem_of_getElem? hmg);have he:=c54 (a:=x) (b:=m) hx hmm;have c1:(i:Int)<ms.length:=by omega
   have hw:=wI1 (n:=i) (by omega);have hta:(ms.take (i+1)).contains x=decide (x=m):=by
    rw[List.take_add_one,hmg];rw[Bool.eq_iff_iff,List.contains_iff_mem,decide_eq_true_eq,List.mem_append];have:x∉ms.take i:=λh=>by rw[List.contains_iff_mem.2 h]at hno;cases hno
    simp[this]
   unfold bR at hgm;by_cases hz:x=m
   ·(repeat first|simp only[ww]|(apply xa;simp+decide only[go_sem,c1,hlt,hle,hgm,he,hz];rfl;kernel_rfl))
    refine a3q (vs:=[.int .i64 i]) (r:=(_,_)) (by simp+decide only[go_sem]) (by simp+decide only[go_sem,a0j,h1]<;>rfl) ⟨i,rfl,?_⟩;rw[decide_eq_true (by omega)];exact(List.contains_iff_mem.2 (hz▸List.mem_of_getElem? hmg)).symm
   ·(repeat first|simp only[ww]|(apply xa;simp+decide only[go_sem,c1,hlt,hle,hgm,he,hz,hw];rfl;kernel_rfl))
    refine a0b (ms.length-(i+1)) (by omega) ⟨_,_,?_,i+1,rfl,hlt,rfl,rfl,by rw[hta];exact decide_eq_false hz⟩
    (simp+decide only[go_sem,a03,a00,h0,h1]<;>rfl)<;>rfl
  ·obtain rfl:i=ms.length:=by omega
   have c1:¬(ms.length:Int)<ms.length:=by omega
   rw[List.take_length]at hno
   (repeat first|simp only[ww]|(apply xa;simp+decide only[go_sem,c1];rfl;kernel_rfl))
   refine a32 (vs:=[.int .i64 (-1)]) (r:=(_,_)) (by simp+decide only[go_sem]) (by simp+decide only[go_sem,a0j,h1]<;>rfl) ⟨-1,rfl,?_⟩;rw[hno];rfl
theorem d45(ms:List Nat)(c:Option Nat)(rest:List (List AV))(hrest:FlatR rest)(x:Nat)(hx:x<18446744073709551616)(hm:∀m∈ms,m<18446744073709551616)(hl:ms.length<1000000) :
 sem L.env Mf 57 [.slice 0 0 ms.length c,u64 (BitVec.ofNat 64 x)] [some (.row 1 (ms.map bR++rest))]=some (.bool (ms.contains x),[some (.row 1 (ms.map bR++rest))]):=by
 obtain⟨r,⟨i,rfl,hi⟩,h⟩:=e1l ms c rest hrest x hx hm hl;have hfl:=(b4a ms).append hrest;have h1:=λπ=>a02 π hfl;have hc:=a1b (E:=L.env) (draw:=false) (call:=sem L.env Mf) (g:=101) (fs:=[]) (cs:=[]) (ar:=[.slice 0 0 ms.length c,u64 (BitVec.ofNat 64 x)]) (H:=[some (.row 1 (ms.map bR++rest))]) (b:=0) (by kernel_rfl) (by kernel_rfl) rfl rfl (a0m hfl) (FlatO.row hfl) rfl (args':=[.slice 0 0 ms.length c,u64 (BitVec.ofNat 64 x)]) rfl h rfl;rw[←hi];generalize ms.map bR++rest=R at *
 (refine sv Tryz.f57 ?_;simp only[Tryz.f57,gS])
 (repeat first|simp only[ww]|(apply xa;simp+decide only[go_sem,hc];rfl;kernel_rfl))
 (apply fqb;simp+decide only[go_sem,h1]<;>rfl)
theorem d1n{d:Bool}{H:a04}{b:Nat}{ms:List Nat}{c:Option Nat}{rest:List (List AV)}(hrest:FlatR rest){x:Nat}(hx:x<18446744073709551616)(hm:∀m∈ms,m<18446744073709551616)(hl:ms.length<1000000)(hb:a01 H b=some (.row 1 (ms.map bR++rest))) :
 a0d L.env d (sem L.env Mf) (.func (.func 57) [] []) [.slice b 0 ms.length c,u64 (BitVec.ofNat 64 x)] H=some (.bool (ms.contains x),H,[b]):=
 a1b (fs:=[]) (cs:=[]) (args:=[.slice b 0 ms.length c,u64 (BitVec.ofNat 64 x)]) (b:=b) (by kernel_rfl) (by kernel_rfl) rfl hb (a0m ((b4a ms).append hrest)) (FlatO.row ((b4a ms).append hrest)) rfl (args':=[.slice 0 0 ms.length c,u64 (BitVec.ofNat 64 x)]) (by simp only[List.map_cons,List.map_nil,a27,d5b]) (d45 ms c rest hrest x hx hm hl) rfl
theorem d36(ms:List Nat)(rest:List (List AV)):List.take ms.length (ms.map bR++rest)=ms.map bR:=by rw[List.take_append_of_le_length (by simp),List.take_of_length_le (by simp)]
theorem e29(ms:List Nat)(rest:List (List AV)):List.drop (ms.length+1) (ms.map bR++rest)=rest.drop 1:=by
 rw[List.drop_append,List.drop_of_length_le (by simp),List.nil_append]
 congr 1;simp
theorem e8w{n:Nat}(h:n≤8):2^n≤256:=Nat.pow_le_pow_right (n:=2) (by omega) h
theorem d0n{tb:List (List Nat)}{n:Nat}{A:AV}(h:Tab tb n A)(hn8:n≤8):sem L.env Mf 24 [A,.int .i64 n] []=some (.tuple [lsV (a0i (a1a tb n (2^n)) n),.int .i64 0],[]):=by
 have hs:=h.small;have hrw:=h.rows;have hva:=h.valid (d:=false) [];have hlen:=a8e h.val;have hAr:=h.val.refs;have hAn:∀π,ren π A=A:=λπ=>a0f π A hAr;have hAf:∀b d,a23 0 b d A=some A:=λb d=>a16 _ _ d A hAr;have hp:=e8w hn8;have c16:¬(16:Int)<n:=by omega
 suffices hs:∃r:AV×a04,(r=(.tuple [lsV (a0i (a1a tb n (2^n)) n),.int .i64 0],[]))∧sem L.env Mf 24 [A,.int .i64 n] []=some r by obtain⟨r,rfl,h3⟩:=hs;exact h3
 have hmk:∀i,∀m∈mkM tb i,m<18446744073709551616:=by
  intro i m hm;obtain⟨j,hj,_,rfl⟩:=(b6q _ _ _).1 hm;have:a2d (a1j tb j)<2^n:=b6s λt ht=>by
   unfold a1j at ht;rw[List.getD_eq_getElem?_getD]at ht;cases hh:tb[j]? with
   |none=>rw[hh]at ht;cases ht
   |some r=>rw[hh]at ht;exact h.lt r (List.mem_of_getElem? hh) t ht
  omega
 have hrm:tb.length≤1000000000:=by omega
 have hmk0:c4e L.env 122 0 (tb.length:Int)=true:=by have:=b6p (E:=L.env) (e:=122) (m:=tb.length) (by omega) (by decide+kernel);unfold c4e at this⊢;simp only[Bool.and_eq_true,decide_eq_true_eq]at this⊢;omega
 (refine svE Tryz.f24 ?_;simp only[Tryz.f24,gS])
 (repeat first|simp only[ww]|(apply xa;simp+decide only[go_sem,hva,c16,hlen,hrm,hmk0];rfl;kernel_rfl))
 refine c27 kp24_0 rfl (λq F H1=>∃(i:Nat) (rest:List (List AV)),q=tb.length-i∧i≤tb.length∧F=[(1,.int .i64 n),(7,.ptr 0 0 0),(30,A),(31,.int .i64 tb.length),(32,.int .i64 i),(1000000,.junk)]∧
  H1=[some (.row 1 [[.slice 1 0 (mkM tb i).length (some tb.length)]]),some (.row 1 ((mkM tb i).map bR++rest))]∧FlatR rest∧(mkM tb i).length+rest.length=tb.length) tb.length ?_ ?_
 ·have hfz:FlatR (List.replicate tb.length [u64 (BitVec.ofInt 64 0)]):=λr hr=>by rw[(List.mem_replicate.1 hr).2];rfl
  refine⟨_,_,?_,0,List.replicate tb.length [u64 (BitVec.ofInt 64 0)],rfl,Nat.zero_le _,rfl,rfl,hfz,by simp[mkM]⟩
  (simp+decide only[go_sem,a03,a00,hAr,hAn,a05 hfz,a02 _ hfz]<;>rfl)<;>rfl
 ·rintro q F H1 ⟨i,rest,rfl,hi,rfl,rfl,hrest,hlr⟩
  have hfl:=(b4a (mkM tb i)).append hrest;have hf0:=a05 hfl;have hf1:=λπ=>a02 π hfl;by_cases hlt:i<tb.length
  ·obtain⟨r,hrr⟩:∃r,tb[i]?=some r:=⟨_,z9e hlt⟩
   have hp12:=λH=>a8f h.val (a01 H) hrr;obtain⟨p,W,hp1,hp2,hW⟩:=hp12 [some (.row 1 [[.slice 1 0 (mkM tb i).length (some tb.length)]]),some (.row 1 ((mkM tb i).map bR++rest))];have hwl:=a3k hW;have hWr:=hW.refs;have hWn:∀π,ren π W=W:=λπ=>a0f π W hWr;have hrm2:=List.mem_of_getElem? hrr;have hrl:=hs.2 r hrm2;have hrow:=c62 hrr;have hmi:=hmk i;have hmk1:mkM tb (i+1)=if decide (0<a2d r) && !(mkM tb i).contains (a2d r)then mkM tb i++[a2d r]else mkM tb i:=by simp only[mkM];rw[hrow]
   have hml:a2d r<18446744073709551616:=by have:=b6s (h.lt r hrm2);omega
   have hkl:=b6r tb i;have c1:(i:Int)<tb.length:=by omega
   have hw:=wI1 (n:=i) (by omega);generalize mkM tb i=ms at hfl hf0 hf1 hp1 hp2 hmi hmk1 hlr hkl⊢
   (repeat first|simp only[ww]|(apply xa;simp+decide only[go_sem,c1,hp1,hp2,hwl];rfl;kernel_rfl))
   refine a0t kp24_2 (λq F H1=>∃(j:Nat),q=r.length-j∧j≤r.length∧F=[(1,.int .i64 n),(7,.ptr 0 0 0),(10,u64 (BitVec.ofNat 64 (a2d (r.take j)))),(30,A),(31,.int .i64 tb.length),(32,.int .i64 i),(36,W),(37,.int .i64 r.length),(38,.int .i64 j)]∧
    H1=[some (.row 1 [[.slice 1 0 ms.length (some tb.length)]]),some (.row 1 (ms.map bR++rest))]) r.length ?_ ?_
   ·refine⟨_,_,?_,0,rfl,Nat.zero_le _,rfl,rfl⟩
    (simp+decide only[go_sem,a03,a00,hAr,hAn,hWr,hWn,hf0,hf1,bi0]<;>rfl)<;>rfl
   ·rintro q F H1 ⟨j,rfl,hj,rfl,rfl⟩
    by_cases hjl:j<r.length
    ·obtain⟨v,hv⟩:∃v,r[j]?=some v:=⟨_,z9e hjl⟩
     obtain⟨p2,hq1,hq2⟩:=b25 hW (a01 [some (.row 1 [[.slice 1 0 ms.length (some tb.length)]]),some (.row 1 (ms.map bR++rest))]) hv;have hvn:v<n:=h.lt r hrm2 v (List.mem_of_getElem? hv);have c2:(j:Int)<r.length:=by omega
     have hw2:=wI1 (n:=j) (by omega);have hsh:=e2u (a:=v) (by omega);have hor:=f04 (a:=a2d (r.take j)) (b:=2^v);have hsn:a2d (r.take (j+1))=a2d (r.take j)|||2^v:=by rw[List.take_add_one,hv];exact c4i _ _
     have hv0:((v:Int)<0)=False:=eq_false (by omega)
     (repeat first|simp only[ww]|(apply xa;simp+decide only[go_sem,c2,hq1,hq2,hw2,hv0,bi1,Int.toNat_natCast,hsh,hor];rfl;kernel_rfl))
     refine a0b (r.length-(j+1)) (by omega) ⟨_,_,?_,j+1,rfl,hjl,rfl,rfl⟩;rw[hsn]
     (simp+decide only[go_sem,a03,a00,hAr,hAn,hWr,hWn,hf0,hf1]<;>rfl)<;>rfl
    ·obtain rfl:j=r.length:=by omega
     have c2:¬(r.length:Int)<r.length:=by omega
     rw[List.take_length];have hgt:∀t c,a4h L.env .gtr t (u64 (BitVec.ofNat 64 (a2d r))) (u64 (BitVec.ofNat 64 0)) c=some (.bool (decide (0<a2d r))):=λt c=>e2x hml (by omega);have hco:=d1n (d:=false) (H:=[some (.row 1 [[.slice 1 0 ms.length (some tb.length)]]),some (.row 1 (ms.map bR++rest))]) (b:=1) (c:=some tb.length) hrest hml hmi (by omega) rfl;by_cases h0:0<a2d r
     ·rw[decide_eq_true h0,Bool.true_and]at hmk1;rw[decide_eq_true h0]at hgt;by_cases hc0:ms.contains (a2d r)=true
      ·rw[hc0]at hco hmk1
       (repeat first|simp only[ww]|(apply xa;simp+decide only[go_sem,c2,hw,bi0,hgt,hco];rfl;kernel_rfl))
       refine a0b (tb.length-(i+1)) (by omega) ⟨_,_,?_,i+1,rest,rfl,hlt,rfl,rfl,hrest,by rw[hmk1];exact hlr⟩;rw[hmk1]
       (simp+decide only[go_sem,a03,a00,hAr,hAn,hf0,hf1]<;>rfl)<;>rfl
      ·have hc0:ms.contains (a2d r)=false:=by simpa using hc0
       rw[hc0]at hco hmk1;have hd1:ms.length+1≤tb.length:=by omega
       have hd2:ms.length+1≤ms.length+rest.length:=by omega
       have hd3:ms.length≤ms.length+rest.length:=by omega
       have ht1:=d36 ms rest;have ht2:=e29 ms rest;have hrest2:FlatR (rest.drop 1):=λr hr=>hrest r (List.mem_of_mem_drop hr);have hfl2:=(b4a (ms++[a2d r])).append hrest2;have hg0:=a05 hfl2;have hg1:=λπ=>a02 π hfl2;have hmk1:mkM tb (i+1)=ms++[a2d r]:=by rw[hmk1];rfl
       simp only[List.map_append,List.map_cons,List.map_nil,List.append_assoc,List.cons_append,List.nil_append,bR]at hg0 hg1
       (repeat first|simp only[ww]|(apply xa;simp+decide only[go_sem,c2,hw,bi0,hgt,hco,hd1,hd2,hd3,ht1,ht2];rfl;kernel_rfl))
       refine a0b (tb.length-(i+1)) (by omega) ⟨_,_,?_,i+1,rest.drop 1,rfl,hlt,rfl,rfl,hrest2,by rw[hmk1];simp;omega⟩;rw[hmk1]
       (simp+decide only[go_sem,a03,a00,hAr,hAn,hg0,hg1,a02 _ (b4a ms),a02 _ hrest2,List.map_append,List.map_cons,List.map_nil,List.append_assoc,List.cons_append,List.nil_append,bR,List.length_append,List.length_cons,List.length_nil]<;>rfl)<;>rfl
     ·rw[decide_eq_false h0,Bool.false_and]at hmk1;rw[decide_eq_false h0]at hgt
      (repeat first|simp only[ww]|(apply xa;simp+decide only[go_sem,c2,hw,bi0,hgt];rfl;kernel_rfl))
      refine a0b (tb.length-(i+1)) (by omega) ⟨_,_,?_,i+1,rest,rfl,hlt,rfl,rfl,hrest,by rw[hmk1];exact hlr⟩;rw[hmk1]
      (simp+decide only[go_sem,a03,a00,hAr,hAn,hf0,hf1]<;>rfl)<;>rfl
  ·obtain rfl:i=tb.length:=by omega
   have c1:¬(tb.length:Int)<tb.length:=by omega
   have hcv:∀x,(!(mkM tb tb.length).any (c7h x))=a4g tb (a0i x n):=λx=>e2b h.lt;have hl1:=λx=>d66 (d:=false) [] (mkM tb tb.length) (some tb.length) x (hmk _) (by have:=b6r tb tb.length;omega);have hkl:=b6r tb tb.length;generalize mkM tb tb.length=ms at hfl hf0 hf1 hcv hl1 hkl hlr⊢;have ht1:=d36 ms rest;have hfz:=a3p (m:=0) (d:=a3v (a01 [some (.row 1 [[.slice 1 0 ms.length (some tb.length)]]),some (.row 1 (ms.map bR++rest))]) 0 10) (b4a ms);have hd3:ms.length≤ms.length+rest.length:=by omega
   (repeat first|simp only[ww]|(apply xa;simp+decide only[go_sem,c1];rfl;kernel_rfl))
   rw[c4p];simp+decide only[go_sem,hAf,ht1,hfz,hd3];have hb1:=e2u (a:=n) (by omega);have hb2:BitVec.ofNat 64 (2^n)-1#64=BitVec.ofNat 64 (2^n-1):=by have:=Nat.two_pow_pos n;apply BitVec.eq_of_toNat_eq;rw[BitVec.toNat_sub,a78 (a:=2^n) (by omega),a78 (a:=1) (by omega),a78 (a:=2^n-1) (by omega)];omega
   have hn0:((n:Int)<0)=False:=eq_false (by omega);have hl2:=λx y hx hy=>d65 (d:=false) [] x y hx hy;generalize hCF:AV.func (.func 58) [] [.iptr [.islice (ms.map bR) (some tb.length)]]=CF at hl1;have hCFr:refs CF=[]:=by rw[←hCF];rfl
   have hCFn:∀π,ren π CF=CF:=λπ=>a0f π CF hCFr
   (repeat first|simp only[ww]|(apply xa;simp+decide only[go_sem,hn0,bi1,bi0,Int.toNat_natCast,hb1,hb2,hCF];rfl;kernel_rfl))
   refine a0t kp24_4 (λq F H1=>∃(k:Nat),q=2^n-k∧k≤2^n∧F=[(1,.int .i64 n),(13,CF),(14,.func (.func 61) [] []),(15,u64 (BitVec.ofNat 64 (a1a tb n k))),(65,u64 (BitVec.ofNat 64 (2^n))),(66,u64 (BitVec.ofNat 64 k))]∧H1=[]) (2^n) ?_ ?_
   ·refine⟨_,_,?_,0,rfl,Nat.zero_le _,rfl,rfl⟩
    (simp+decide only[go_sem,a03,a00,hCF,hCFr,hCFn,a1a]<;>rfl)<;>rfl
   ·rintro q F H1 ⟨k,rfl,hk,rfl,rfl⟩
    have hls:∀t c,a4h L.env .lss t (u64 (BitVec.ofNat 64 k)) (u64 (BitVec.ofNat 64 (2^n))) c=some (.bool (decide (k<2^n))):=λt c=>e2w (by omega) (by omega);have hbl:=a8q tb n k hk;by_cases hlt:k<2^n
    ·rw[decide_eq_true hlt]at hls;have hl1:=hl1 k;rw[hcv]at hl1;have hl2:=hl2 k (a1a tb n k) (by omega) (by omega);have hst:a1a tb n (k+1)=if a4g tb (a0i k n)&&c3m k (a1a tb n k)then k else a1a tb n k:=rfl
     have hb3:=d46 (a:=k);by_cases e1:a4g tb (a0i k n)=true
     ·rw[e1]at hl1 hst;rw[Bool.true_and]at hst;by_cases e2:c3m k (a1a tb n k)=true
      ·rw[e2]at hl2 hst;rw[if_pos rfl]at hst
       (repeat first|simp only[ww]|(apply xa;simp+decide only[go_sem,hls,hl1,hl2,bi1,hb3];rfl;kernel_rfl))
       refine a0b (2^n-(k+1)) (by omega) ⟨_,_,?_,k+1,rfl,hlt,rfl,rfl⟩;rw[hst]
       (simp+decide only[go_sem,a03,a00,hCFr,hCFn]<;>rfl)<;>rfl
      ·have e2:c3m k (a1a tb n k)=false:=by simpa using e2
       rw[e2]at hl2 hst;rw[if_neg (by decide)]at hst
       (repeat first|simp only[ww]|(apply xa;simp+decide only[go_sem,hls,hl1,hl2,bi1,hb3];rfl;kernel_rfl))
       refine a0b (2^n-(k+1)) (by omega) ⟨_,_,?_,k+1,rfl,hlt,rfl,rfl⟩;rw[hst]
       (simp+decide only[go_sem,a03,a00,hCFr,hCFn]<;>rfl)<;>rfl
     ·have e1:a4g tb (a0i k n)=false:=by simpa using e1
      rw[e1]at hl1 hst;rw[Bool.false_and,if_neg (by decide)]at hst
      (repeat first|simp only[ww]|(apply xa;simp+decide only[go_sem,hls,hl1,bi1,hb3];rfl;kernel_rfl))
      refine a0b (2^n-(k+1)) (by omega) ⟨_,_,?_,k+1,rfl,hlt,rfl,rfl⟩;rw[hst]
      (simp+decide only[go_sem,a03,a00,hCFr,hCFn]<;>rfl)<;>rfl
    ·obtain rfl:k=2^n:=by omega
     rw[decide_eq_false hlt]at hls;generalize a1a tb n (2^n)=best at hbl⊢
     (repeat first|simp only[ww]|(apply xa;simp+decide only[go_sem,hls];rfl;kernel_rfl))
     refine a0t kp24_6 (λq F H1=>∃(t:Nat) (o:List Nat),q=n-t∧t≤n∧o=a0i best t∧F=[(15,u64 (BitVec.ofNat 64 best)),(17,grV 0 (o.map a12)),(80,.int .i64 n),(81,.int .i64 t)]∧H1=grH 1 (o.map a12)) n ?_ ?_
     ·refine⟨_,_,?_,0,[],rfl,Nat.zero_le _,rfl,rfl,rfl⟩
      (simp+decide only[go_sem,a03,a00]<;>rfl)<;>rfl
     ·rintro q F H1 ⟨t,o,rfl,ht,ho,rfl,rfl⟩
      have hol:o.length≤t:=by rw[ho];exact a7a _ _
      by_cases htl:t<n
      ·have c3:(t:Int)<n:=by omega
       have hw3:=wI1 (n:=t) (by omega);have ht0:((t:Int)<0)=False:=eq_false (by omega);have e2:=d7e (a:=best) (b:=t) (by omega);have e3:=d7f (a:=best/2^t);have e4:=c54 (a:=best/2^t%2) (b:=1) (by omega) (by omega);have hst:a0i best (t+1)=a0i best t++if best/2^t%2=1 then[t]else[]:=by
        unfold a0i;rw[List.range_succ,List.filter_append]
        congr 1
        by_cases h:best/2^t%2=1<;>simp[h]
       rw[←ho]at hst;by_cases hb:best/2^t%2=1
       ·rw[if_pos hb]at hst;cases o with
        |nil=>
         simp only[List.map_nil,a1u,a2q]
         (repeat first|simp only[ww]|(apply xa;simp+decide only[go_sem,c3,ht0,Int.toNat_natCast,e2,bi1,e3,e4,hb,hw3];rfl;kernel_rfl))
         refine a0b (n-(t+1)) (by omega) ⟨_,_,?_,t+1,[t],rfl,htl,hst.symm,rfl,rfl⟩
         (simp+decide only[go_sem,a03,a00,List.map_nil,List.map_cons,a0r,a0y,List.length_nil]<;>rfl)<;>rfl
        |cons a r=>
         have hrm3:r.length+1+1≤1000000000:=by simp only[List.length_cons]at hol;omega
         simp only[List.map_cons,a0r,a0y,List.length_map]
         (repeat first|simp only[ww]|(apply xa;simp+decide only[go_sem,c3,ht0,Int.toNat_natCast,e2,bi1,e3,e4,hb,hw3,hrm3];rfl;kernel_rfl))
         refine a0b (n-(t+1)) (by omega) ⟨_,_,?_,t+1,a::r++[t],rfl,htl,hst.symm,rfl,rfl⟩
         (simp+decide only[go_sem,a03,a00,List.cons_append,List.map_cons,List.map_append,List.map_nil,a0r,a0y,a2c,a5m,List.length_cons,List.length_map,List.length_append,List.length_nil]<;>rfl)<;>rfl
       ·rw[if_neg hb,List.append_nil]at hst;cases o with
        |nil=>
         simp only[List.map_nil,a1u,a2q]
         (repeat first|simp only[ww]|(apply xa;simp+decide only[go_sem,c3,ht0,Int.toNat_natCast,e2,bi1,e3,e4,hb,hw3];rfl;kernel_rfl))
         refine a0b (n-(t+1)) (by omega) ⟨_,_,?_,t+1,[],rfl,htl,hst.symm,rfl,rfl⟩
         (simp+decide only[go_sem,a03,a00,List.map_nil,a1u,a2q]<;>rfl)<;>rfl
        |cons a r=>
         simp only[List.map_cons,a0r,a0y,List.length_map]
         (repeat first|simp only[ww]|(apply xa;simp+decide only[go_sem,c3,ht0,Int.toNat_natCast,e2,bi1,e3,e4,hb,hw3];rfl;kernel_rfl))
         refine a0b (n-(t+1)) (by omega) ⟨_,_,?_,t+1,a::r,rfl,htl,hst.symm,rfl,rfl⟩
         (simp+decide only[go_sem,a03,a00,List.map_cons,a0r,a0y,a2c,a5m,List.length_map]<;>rfl)<;>rfl
      ·obtain rfl:t=n:=by omega
       have c3:¬(t:Int)<t:=by omega
       rw[←ho];cases o with
       |nil=>
        have hcl:=λH=>a7o (d:=false) H;simp only[List.map_nil,a1u,a2q]
        (repeat first|simp only[ww]|(apply xa;simp+decide only[go_sem,c3,hcl];rfl;kernel_rfl))
        refine a32 (vs:=[.nilslice,.int .i64 0]) (r:=(_,_)) (by simp+decide only[go_sem]) ?_ rfl;simp+decide only[go_sem,a0j]<;>rfl
       |cons a r=>
        have hcl:=a5r (d:=false) (H:=[some (.row 1 ((a::r).map a12))]) (b:=0) (n:=r.length+1) (a7r _) rfl;simp only[List.map_cons,a12]at hcl;simp only[List.map_cons,a0r,a0y,List.length_map]
        (repeat first|simp only[ww]|(apply xa;simp+decide only[go_sem,c3,hcl];rfl;kernel_rfl))
        refine a32 (vs:=[.slice 0 0 (r.length+1) (some (r.length+1)),.int .i64 0]) (r:=(_,_)) (by simp+decide only[go_sem]) ?_ rfl;exact c7u a r 0 rfl
theorem c1m:sem L.env Mf 65 [.nilslice] []=some (.nilslice,[]):=by
 (refine sv Tryz.f65 ?_;simp only[Tryz.f65,gS])
 (repeat first|simp only[ww]|(apply xa;simp+decide only[go_sem];rfl;kernel_rfl))
 (apply fqb;simp+decide only[go_sem]<;>rfl)
theorem b86{tb:List (List Nat)}{i:Nat}{r:List Nat}(h:tb[i]?=some r):a5a (tb.take (i+1))=a5a (tb.take i)++if r.length=1 then[r.headD 0]else[]:=by
 unfold a5a;rw[List.take_add_one,h,List.filter_append,List.map_append]
 congr 1
 simp only[Option.toList_some,List.filter_cons,List.filter_nil,beq_iff_eq];split<;>rfl
theorem c0q(tb:List (List Nat)):(a5a tb).length≤tb.length:=by unfold a5a;rw[List.length_map];exact List.length_filter_le _ _
theorem e1i(l:List Nat):(l.map λ(x:Nat)=>(x:Int)).map c0f=l.map a12:=by rw[List.map_map];rfl
theorem d6p{H:a04}{b:Nat}(a:Nat)(t:List Nat)(rest:List (List AV))(e:Int)(hb:a01 H b=some (.row 1 ((a::t).map a12++rest))):a0j false 0 (.tuple [.slice b 0 (t.length+1) (some (t.length+1)),.int .i64 e]) H=some (.tuple [lsV (a::t),.int .i64 e],[]):=by
 have h1:List.take t.length (t.map a12++rest)=t.map a12:=by rw[List.take_append_of_le_length (by simp),List.take_of_length_le (by simp)]
 simp+decide only[go_sem,hb,List.length_cons,List.length_map,List.map_cons,List.cons_append,lsV,e4v,h1,List.length_append,Nat.add_le_add_iff_right,Nat.le_add_right]<;>rfl
theorem b9h{tb:List (List Nat)}{n:Nat}{A:AV}(h:Tab tb n A)(h30:tb.length≤100):sem L.env Mf 25 [A,.int .i64 n] []=some (.tuple [lsV (a1k tb n),.int .i64 0],[]):=by
 have hs:=h.small;have hva:=h.valid (d:=false) [];have hlen:=a8e h.val;have hAr:=h.val.refs;have hAn:∀π,ren π A=A:=λπ=>a0f π A hAr
 suffices hs:∃r:AV×a04,(r=(.tuple [lsV (a1k tb n),.int .i64 0],[]))∧sem L.env Mf 25 [A,.int .i64 n] []=some r by obtain⟨r,rfl,h3⟩:=hs;exact h3
 (refine svE Tryz.f25 ?_;simp only[Tryz.f25,gS])
 (repeat first|simp only[ww]|(apply xa;simp+decide only[go_sem,hva,hlen];rfl;kernel_rfl))
 refine a0t kp25_0 (λq F H1=>∃(i:Nat) (o:List Nat),q=tb.length-i∧i≤tb.length∧o=a5a (tb.take i)∧F=[(7,grV 0 (o.map a12)),(16,A),(17,.int .i64 tb.length),(18,.int .i64 i)]∧H1=grH 1 (o.map a12)) tb.length ?_ ?_
 ·refine⟨_,_,?_,0,[],rfl,Nat.zero_le _,rfl,rfl,rfl⟩
  (simp+decide only[go_sem,a03,a00,hAr,hAn]<;>rfl)<;>rfl
 ·rintro q F H1 ⟨i,o,rfl,hi,ho,rfl,rfl⟩
  have hol:o.length≤100:=by rw[ho];refine Nat.le_trans (c0q _) ?_;simp;omega
  by_cases hlt:i<tb.length
  ·obtain⟨r,hrr⟩:∃r,tb[i]?=some r:=⟨_,z9e hlt⟩
   obtain⟨p,W,hp1,hp2,hW⟩:=a8f h.val (a01 (grH 1 (o.map a12))) hrr;have hwl:=a3k hW;have hst:=b86 hrr;rw[←ho]at hst;have c1:(i:Int)<tb.length:=by omega
   have hw:=wI1 (n:=i) (by omega);by_cases h1:r.length=1
   ·rw[if_pos h1]at hst;obtain⟨v,rfl⟩:=List.length_eq_one_iff.1 h1;obtain⟨p2,hq1,hq2⟩:=b25 hW (a01 (grH 1 (o.map a12))) (i:=0) (v:=v) rfl;simp only[Int.natCast_zero]at hq1;have hc1:((List.length [v]:Nat):Int)=1:=rfl;cases o with
    |nil=>
     simp only[List.map_nil,a1u,a2q]at hp1 hp2 hq1 hq2⊢
     (repeat first|simp only[ww]|(apply xa;simp+decide only[go_sem,c1,hp1,hp2,hwl,hc1,hq1,hq2,hw,Int.natCast_zero];rfl;kernel_rfl))
     refine a0b (tb.length-(i+1)) (by omega) ⟨_,_,?_,i+1,[v],rfl,hlt,hst.symm,rfl,rfl⟩
     (simp+decide only[go_sem,a03,a00,hAr,hAn,List.map_nil,List.map_cons,a0r,a0y,List.length_nil]<;>rfl)<;>rfl
    |cons a t=>
     have hrm3:t.length+1+1≤1000000000:=by simp only[List.length_cons]at hol;omega
     simp only[List.map_cons,a0r,a0y,List.length_map]at hp1 hp2 hq1 hq2⊢;simp only[a12]at hp1 hp2 hq1 hq2
     (repeat first|simp only[ww]|(apply xa;simp+decide only[go_sem,c1,hp1,hp2,hwl,hc1,hq1,hq2,hw,hrm3,Int.natCast_zero];rfl;kernel_rfl))
     refine a0b (tb.length-(i+1)) (by omega) ⟨_,_,?_,i+1,a::t++[v],rfl,hlt,hst.symm,rfl,rfl⟩
     (simp+decide only[go_sem,a03,a00,hAr,hAn,List.cons_append,List.map_cons,List.map_append,List.map_nil,a0r,a0y,a2c,a5m,List.length_cons,List.length_map,List.length_append,List.length_nil]<;>rfl)<;>rfl
   ·rw[if_neg h1,List.append_nil]at hst;have hc1:¬((r.length:Nat):Int)=1:=by omega
    cases o with
    |nil=>
     simp only[List.map_nil,a1u,a2q]at hp1 hp2⊢
     (repeat first|simp only[ww]|(apply xa;simp+decide only[go_sem,c1,hp1,hp2,hwl,hc1,hw];rfl;kernel_rfl))
     refine a0b (tb.length-(i+1)) (by omega) ⟨_,_,?_,i+1,[],rfl,hlt,hst.symm,rfl,rfl⟩
     (simp+decide only[go_sem,a03,a00,hAr,hAn,List.map_nil,a1u,a2q]<;>rfl)<;>rfl
    |cons a t=>
     simp only[List.map_cons,a0r,a0y,List.length_map]at hp1 hp2⊢;simp only[a12]at hp1 hp2
     (repeat first|simp only[ww]|(apply xa;simp+decide only[go_sem,c1,hp1,hp2,hwl,hc1,hw];rfl;kernel_rfl))
     refine a0b (tb.length-(i+1)) (by omega) ⟨_,_,?_,i+1,a::t,rfl,hlt,hst.symm,rfl,rfl⟩
     (simp+decide only[go_sem,a03,a00,hAr,hAn,List.map_cons,a0r,a0y,a2c,a5m,List.length_map]<;>rfl)<;>rfl
  ·obtain rfl:i=tb.length:=by omega
   have c1:¬(tb.length:Int)<tb.length:=by omega
   rw[List.take_length]at ho;have hdd:=d2d h.lt;rw[←ho]at hdd;cases o with
   |nil=>
    have hal:a1k tb n=[]:=by
     cases ha:a1k tb n with
     |nil=>rfl
     |cons x l=>have:=congrArg List.length hdd;rw[ha]at this;simp[dd]at this
    rw[hal];have hso:=a07 (E:=L.env) (draw:=false) (call:=sem L.env Mf) (g:=64) (fs:=[]) (cs:=[]) (ar:=[.nilslice]) (H:=[]) (by kernel_rfl) (by kernel_rfl) rfl rfl (e01 none) rfl;have hco:=a07 (E:=L.env) (draw:=false) (call:=sem L.env Mf) (g:=65) (fs:=[]) (cs:=[]) (ar:=[.nilslice]) (H:=[]) (by kernel_rfl) (by kernel_rfl) rfl rfl c1m rfl;have hcl:=a7o (d:=false) [];simp only[List.map_nil,a1u,a2q]
    (repeat first|simp only[ww]|(apply xa;simp+decide only[go_sem,c1,hso,hco,hcl];rfl;kernel_rfl))
    refine a32 (vs:=[.nilslice,.int .i64 0]) (r:=(_,_)) (by simp+decide only[go_sem]) ?_ rfl;simp+decide only[go_sem,a0j]<;>rfl
   |cons a t=>
    have htl:t.length+1≤100:=by simpa using hol
    generalize hSS:(((a::t).map λ(x:Nat)=>(x:Int)).mergeSort λx y=>decide (x≤y))=SS at hdd;have hSl:SS.length=t.length+1:=by rw[←hSS,List.length_mergeSort];simp
    have hso:=d4p (t.length+1) none ((a::t).map λ(x:Nat)=>(x:Int)).toArray [] FlatR.nil (by simp) (by simp only[List.length_cons]at hol;omega);rw[d02,e61,List.append_nil,List.append_nil,e1i,hSS]at hso;have hsc:=b0g (d:=false) (g:=64) (by kernel_rfl) (by kernel_rfl) (a7r _) (OneR.intz SS).flat rfl rfl rfl hso;obtain⟨r,⟨rest',hr',rfl⟩,hcm⟩:=c4v SS [] none (λr h=>by simp at h) (by omega) (λm h=>by cases h);rw[List.append_nil,hSl,hdd,e1i,List.length_map]at hcm;have hfl2:FlatR ((a1k tb n).map a12++rest'):=(a7r _).append hr'.flat;have hcc:=b0g (d:=false) (g:=65) (by kernel_rfl) (by kernel_rfl) (OneR.intz SS).flat hfl2 rfl rfl rfl hcm;have hcl:=a5r (d:=false) (H:=[some (.row 1 ((a1k tb n).map a12++rest'))]) (b:=0) (n:=(a1k tb n).length) hfl2 rfl;obtain⟨x,l,hxl⟩:∃x l,a1k tb n=x::l:=by
     cases ha:a1k tb n with
     |nil=>
      have h1:=d44 SS a;rw[hdd,ha]at h1;have h2:(a:Int)∈SS:=by rw[←hSS,List.mem_mergeSort];simp
      exact absurd (h1.2 h2) (by simp)
     |cons x l=>exact⟨x,l,rfl⟩
    rw[hxl]at hcc hcl⊢;simp only[List.map_cons,a12,List.length_cons,List.cons_append]at hsc hcc hcl;simp only[List.map_cons,a0r,a0y,List.length_map];generalize SS.map c0f=ZZ at hsc hcc
    (repeat first|simp only[ww]|(apply xa;simp+decide only[go_sem,c1,hsc,hcc,hcl];rfl;kernel_rfl))
    refine a32 (vs:=[.slice 0 0 (l.length+1) (some (l.length+1)),.int .i64 0]) (r:=(_,_)) (by simp+decide only[go_sem]) ?_ rfl;exact d6p x l rest' 0 rfl
theorem e1f{x t:Nat}(h:t≤64):d68 .i64 (x:Int) (t:Int)=((x/2^t:Nat):Int):=by
 unfold d68;have:min (t:Int).toNat IntKind.i64.bits=t:=by simp[IntKind.bits];omega
 rw[this,show(2:Int)^t=((2^t:Nat):Int) by simp];exact(Int.ofNat_fdiv x (2^t)).symm
theorem c51(x t:Nat):a0i x (t+1)=a0i x t++if x/2^t%2=1 then[t]else[]:=by
 unfold a0i;rw[List.range_succ,List.filter_append]
 congr 1
 by_cases h:x/2^t%2=1<;>simp[h]
def slI(l:List Nat):AV:=slF none (l.map a12)
theorem d3g{l:List Nat}(h:l≠[]):slI l = .islice (l.map a12) none:=by
 cases l with
 |nil=>exact absurd rfl h
 |cons a r=>rfl
theorem b21(l:List Nat):RV l (slI l):=d3h l
theorem a53(l:List Nat):refs (slI l)=[]:=(b21 l).refs
theorem c8i(x n:Nat)(hn:n≤8):sem L.env Mf 68 [.int .i64 x,.int .i64 n] []=some (slI (a0i x n),[]):=by
 suffices hs:∃r:AV×a04,(r=(slI (a0i x n),[]))∧sem L.env Mf 68 [.int .i64 x,.int .i64 n] []=some r by obtain⟨r,rfl,h3⟩:=hs;exact h3
 (refine svE Tryz.f68 ?_;simp only[Tryz.f68,gS])
 (repeat first|simp only[ww]|(apply xa;simp+decide only[go_sem];rfl;kernel_rfl))
 refine a0t kp68_0 (λq F H1=>∃(t:Nat) (o:List Nat),q=n-t∧t≤n∧o=a0i x t∧F=[(0,.int .i64 x),(1,.int .i64 n),(5,grV 0 (o.map a12)),(6,.int .i64 t)]∧H1=grH 1 (o.map a12)) n ?_ ?_
 ·refine⟨_,_,?_,0,[],rfl,Nat.zero_le _,rfl,rfl,rfl⟩
  (simp+decide only[go_sem,a03,a00]<;>rfl)<;>rfl
 ·rintro q F H1 ⟨t,o,rfl,ht,ho,rfl,rfl⟩
  have hol:o.length≤t:=by rw[ho];exact a7a _ _
  by_cases htl:t<n
  ·have c3:(t:Int)<n:=by omega
   have hw3:=wI1 (n:=t) (by omega);have ht0:((t:Int)<0)=False:=eq_false (by omega);have e2:=e1f (x:=x) (t:=t) (by omega);have hst:=c51 x t;rw[←ho]at hst;by_cases hb:x/2^t%2=1
   ·rw[if_pos hb]at hst;have hb':((x/2^t%2:Nat):Int)=1:=by omega
    cases o with
    |nil=>
     simp only[List.map_nil,a1u,a2q]
     (repeat first|simp only[ww]|(apply xa;simp+decide only[go_sem,c3,ht0,e2,hb',hw3];rfl;kernel_rfl))
     refine a0b (n-(t+1)) (by omega) ⟨_,_,?_,t+1,[t],rfl,htl,hst.symm,rfl,rfl⟩
     (simp+decide only[go_sem,a03,a00,List.map_nil,List.map_cons,a0r,a0y,List.length_nil]<;>rfl)<;>rfl
    |cons a r=>
     have hrm3:r.length+1+1≤1000000000:=by simp only[List.length_cons]at hol;omega
     simp only[List.map_cons,a0r,a0y,List.length_map]
     (repeat first|simp only[ww]|(apply xa;simp+decide only[go_sem,c3,ht0,e2,hb',hw3,hrm3];rfl;kernel_rfl))
     refine a0b (n-(t+1)) (by omega) ⟨_,_,?_,t+1,a::r++[t],rfl,htl,hst.symm,rfl,rfl⟩
     (simp+decide only[go_sem,a03,a00,List.cons_append,List.map_cons,List.map_append,List.map_nil,a0r,a0y,a2c,a5m,List.length_cons,List.length_map,List.length_append,List.length_nil]<;>rfl)<;>rfl
   ·rw[if_neg hb,List.append_nil]at hst;have hb':¬((x/2^t%2:Nat):Int)=1:=by omega
    cases o with
    |nil=>
     simp only[List.map_nil,a1u,a2q]
     (repeat first|simp only[ww]|(apply xa;simp+decide only[go_sem,c3,ht0,e2,hb',hw3];rfl;kernel_rfl))
     refine a0b (n-(t+1)) (by omega) ⟨_,_,?_,t+1,[],rfl,htl,hst.symm,rfl,rfl⟩
     (simp+decide only[go_sem,a03,a00,List.map_nil,a1u,a2q]<;>rfl)<;>rfl
    |cons a r=>
     simp only[List.map_cons,a0r,a0y,List.length_map]
     (repeat first|simp only[ww]|(apply xa;simp+decide only[go_sem,c3,ht0,e2,hb',hw3];rfl;kernel_rfl))
     refine a0b (n-(t+1)) (by omega) ⟨_,_,?_,t+1,a::r,rfl,htl,hst.symm,rfl,rfl⟩
     (simp+decide only[go_sem,a03,a00,List.map_cons,a0r,a0y,a2c,a5m,List.length_map]<;>rfl)<;>rfl
  ·obtain rfl:t=n:=by omega
   have c3:¬(t:Int)<t:=by omega
   rw[←ho];cases o with
   |nil=>
    simp only[List.map_nil,a1u,a2q]
    (repeat first|simp only[ww]|(apply xa;simp+decide only[go_sem,c3];rfl;kernel_rfl))
    refine a32 (vs:=[.nilslice]) (r:=(_,_)) (by simp+decide only[go_sem]) ?_ rfl;simp+decide only[go_sem,a0j]<;>rfl
   |cons a r=>
    simp only[List.map_cons,a0r,a0y,List.length_map]
    (repeat first|simp only[ww]|(apply xa;simp+decide only[go_sem,c3];rfl;kernel_rfl))
    refine a32 (vs:=[.slice 0 0 (r.length+1) none]) (r:=(_,_)) (by simp+decide only[go_sem]) ?_ rfl;simp+decide only[go_sem,a0j,slI,slF,List.map_cons,e4v,c0k,List.length_map]<;>rfl
theorem c1n{d:Bool}(H:a04)(x n:Nat)(hn:n≤8):a0d L.env d (sem L.env Mf) (.func (.func 68) [] []) [.int .i64 x,.int .i64 n] H=some (slI (a0i x n),H,[]):=a07 (by kernel_rfl) (by kernel_rfl) rfl rfl (c8i x n hn) (a53 _)
theorem c1h(x y:Nat)(a b:List Nat):a2b (x::a) (y::b)=if x=y then a2b a b else decide (x<y):=by rfl
theorem b5h(a:List Nat):a2b a []=false∧a2b [] a=false:=by constructor<;>cases a<;>rfl
theorem d16(a b:List Nat)(ha:a.length≤1000)(hb:b.length≤1000):sem L.env Mf 69 [slI a,slI b] []=some (.bool (a2b a b),[]):=by
 have hla:=a3k (b21 a);have hlb:=a3k (b21 b);have har:=a53 a;have hbr:=a53 b;have han:∀π,ren π (slI a)=slI a:=λπ=>a0f π _ har;have hbn:∀π,ren π (slI b)=slI b:=λπ=>a0f π _ hbr
 suffices hs:∃r:AV×a04,(r=(.bool (a2b a b),[]))∧sem L.env Mf 69 [slI a,slI b] []=some r by obtain⟨r,rfl,h3⟩:=hs;exact h3
 (refine svE Tryz.f69 ?_;simp only[Tryz.f69,gS])
 (repeat first|simp only[ww]|(apply xa;simp+decide only[go_sem];rfl;kernel_rfl))
 refine a0t kp69_0 (λq F H1=>∃(i:Nat),q=a.length-i∧i≤a.length∧i≤b.length∧F=[(0,slI a),(1,slI b),(5,.int .i64 i)]∧H1=[]∧a2b (a.drop i) (b.drop i)=a2b a b) a.length ?_ ?_
 ·refine⟨_,_,?_,0,rfl,Nat.zero_le _,Nat.zero_le _,rfl,rfl,rfl⟩
  (simp+decide only[go_sem,a03,a00,har,hbr,han,hbn]<;>rfl)<;>rfl
 ·rintro q F H1 ⟨i,rfl,hi,hib,rfl,rfl,hinv⟩
  by_cases h1:i<a.length
  ·have c1:(i:Int)<a.length:=by omega
   by_cases h2:i<b.length
   ·have c2:(i:Int)<b.length:=by omega
    obtain⟨x,hx⟩:∃x,a[i]?=some x:=⟨_,z9e h1⟩
    obtain⟨y,hy⟩:∃y,b[i]?=some y:=⟨_,z9e h2⟩
    have hda:a.drop i=x::a.drop (i+1):=by rw[←List.getElem_cons_drop h1,(List.getElem?_eq_some_iff.1 hx).2]
    have hdb:b.drop i=y::b.drop (i+1):=by rw[←List.getElem_cons_drop h2,(List.getElem?_eq_some_iff.1 hy).2]
    rw[hda,hdb,c1h]at hinv;have hga:(a.map a12)[i]?=some [.int .i64 x]:=by rw[List.getElem?_map,hx];rfl
    have hgb:(b.map a12)[i]?=some [.int .i64 y]:=by rw[List.getElem?_map,hy];rfl
    have hsa:=d3g (l:=a) (by intro e;rw[e]at h1;simp at h1);have hsb:=d3g (l:=b) (by intro e;rw[e]at h2;simp at h2);have hw:=wI1 (n:=i) (by omega);by_cases hxy:x=y
    ·rw[if_pos hxy]at hinv;subst hxy
     (repeat first|simp only[ww]|(apply xa;simp+decide only[go_sem,hla,hlb,c1,c2];rfl;kernel_rfl))
     (repeat first|simp only[ww]|((with_reducible first|apply xs2|apply xI);(·simp+decide only[go_sem,hsa,hsb,hga,hgb,h1,h2,List.length_map,hw];rfl);with_reducible first|apply xT|apply xF|(·kernel_rfl)))
     refine a0b (a.length-(i+1)) (by omega) ⟨_,_,?_,i+1,rfl,h1,h2,rfl,rfl,hinv⟩
     (simp+decide only[go_sem,a03,a00,hsa,hsb,a2c,a5m]<;>rfl)<;>rfl
    ·rw[if_neg hxy]at hinv;have c3:((x:Int)=y)=False:=eq_false (by omega);have c4:decide ((x:Int)<y)=decide (x<y):=by rw[Bool.eq_iff_iff];simp
     (repeat first|simp only[ww]|(apply xa;simp+decide only[go_sem,hla,hlb,c1,c2];rfl;kernel_rfl))
     (repeat first|simp only[ww]|((with_reducible first|apply xs2|apply xI);(·simp+decide only[go_sem,hsa,hsb,hga,hgb,h1,h2,List.length_map,c3];rfl);with_reducible first|apply xT|apply xF|(·kernel_rfl)))
     refine a3q (vs:=[.bool (decide ((x:Int)<y))]) (r:=(_,_)) (by simp+decide only[go_sem]) (by simp+decide only[go_sem,a0j]<;>rfl) ?_;rw[c4,hinv]
   ·have c2:¬(i:Int)<b.length:=by omega
    have hdb:b.drop i=[]:=List.drop_of_length_le (by omega);rw[hdb,(b5h _).1]at hinv
    (repeat first|simp only[ww]|(apply xa;simp+decide only[go_sem,hla,hlb,c1,c2];rfl;kernel_rfl))
    refine a32 (vs:=[.bool false]) (r:=(_,_)) (by simp+decide only[go_sem]) (by simp+decide only[go_sem,a0j]<;>rfl) ?_;rw[←hinv]
  ·have c1:¬(i:Int)<a.length:=by omega
   have hda:a.drop i=[]:=List.drop_of_length_le (by omega);rw[hda,(b5h _).2]at hinv
   (repeat first|simp only[ww]|(apply xa;simp+decide only[go_sem,hla,hlb,c1];rfl;kernel_rfl))
   refine a32 (vs:=[.bool false]) (r:=(_,_)) (by simp+decide only[go_sem]) (by simp+decide only[go_sem,a0j]<;>rfl) ?_;rw[←hinv]
theorem c4s{d:Bool}(H:a04)(a b:List Nat)(ha:a.length≤1000)(hb:b.length≤1000):a0d L.env d (sem L.env Mf) (.func (.func 69) [] []) [slI a,slI b] H=some (.bool (a2b a b),H,[]):=a07 (by kernel_rfl) (by kernel_rfl) rfl (by simp[a0a,a53]) (d16 a b ha hb) rfl
theorem d0v(l:List Nat)(V:AV)(hV:RV l V)(hl:l.length<1000000):sem L.env Mf 13 [lsV l,V] []=some (.int .i64 0,[]):=by
 have hlen2:=a3k (a6j l) (a01 []);have hlen:=a3k hV (a01 []);have hcap:=c71 l;have hr:=a2n l;have hVr:=hV.refs;have hren:∀π,ren π (lsV l)=lsV l:=λπ=>a0f π _ hr;have hVn:∀π,ren π V=V:=λπ=>a0f π _ hVr;have c0:¬(l.length:Int)<l.length:=by omega
 suffices hs:∃r:AV×a04,(r=(.int .i64 0,[]))∧sem L.env Mf 13 [lsV l,V] []=some r by obtain⟨r,rfl,h3⟩:=hs;exact h3
 (refine svE Tryz.f13 ?_;simp only[Tryz.f13,gS])
 (repeat first|simp only[ww]|(apply xa;simp+decide only[go_sem,hlen,hlen2,hcap,c0];rfl;kernel_rfl))
 refine a0t kp13_0 (λn F H1=>∃(i:Nat),n=l.length-i∧i≤l.length∧F=[(0,lsV l),(1,V),(5,.int .i64 i)]∧H1=[]) l.length ?_ ?_
 ·refine⟨_,_,?_,0,rfl,Nat.zero_le _,rfl,rfl⟩
  (simp+decide only[go_sem,a03,a00,hr,hren,hVr,hVn]<;>rfl)<;>rfl
 ·rintro n F H1 ⟨i,rfl,hi,rfl,rfl⟩
  by_cases hlt:i<l.length
  ·obtain⟨v,hv⟩:∃v,l[i]?=some v:=⟨_,z9e hlt⟩
   have hg:(l.map a12)[i]?=some [.int .i64 v]:=by rw[List.getElem?_map,hv];rfl
   have hls:lsV l = .islice (l.map a12) (some l.length):=by
    cases l with
    |nil=>simp at hlt
    |cons a r=>rfl
   have c1:(i:Int)<l.length:=by omega
   have hw:=wI1 (n:=i) (by omega);cases hV with
   |nil h0=>rw[h0]at hlt;simp at hlt
   |imm cc=>
    (repeat first|simp only[ww]|(apply xa;simp+decide only[go_sem,hlen2,c1];rfl;kernel_rfl))
    (repeat first|simp only[ww]|((with_reducible first|apply xs2|apply xI);(·simp+decide only[go_sem,hls,hg,hlt,List.length_map,hw];rfl);with_reducible first|apply xT|apply xF|(·kernel_rfl)))
    refine a0b (l.length-(i+1)) (by omega) ⟨_,_,?_,i+1,rfl,hlt,rfl,rfl⟩
    (simp+decide only[go_sem,a03,a00,hls,a2c,a5m]<;>rfl)<;>rfl
  ·obtain rfl:i=l.length:=by omega
   have c1:¬(l.length:Int)<l.length:=by omega
   (repeat first|simp only[ww]|(apply xa;simp+decide only[go_sem,hlen2,c1];rfl;kernel_rfl))
   refine a32 (vs:=[.int .i64 0]) (r:=(_,_)) (by simp+decide only[go_sem]) ?_ rfl;simp+decide only[go_sem,a0j]<;>rfl
theorem b93{d:Bool}(H:a04){l:List Nat}{V:AV}(hV:RV l V)(hl:l.length<1000000):a0d L.env d (sem L.env Mf) (.func (.func 13) [] []) [lsV l,V] H=some (.int .i64 0,H,[]):=a07 (by kernel_rfl) (by kernel_rfl) rfl (by simp[a0a,hV.refs,a2n]) (d0v l V hV hl) rfl
theorem c4k{d:Bool}(H:a04){tb:List (List Nat)}{n:Nat}{A:AV}(h:Tab tb n A)(hn:n≤8):a0d L.env d (sem L.env Mf) (.func (.func 24) [] []) [A,.int .i64 n] H=some (.tuple [lsV (a0i (a1a tb n (2^n)) n),.int .i64 0],H,[]):=a07 (by kernel_rfl) (by kernel_rfl) rfl (by simp[a0a,h.val.refs,refs]) (d0n h hn) (by simp[refs,a0a,a2n])
theorem b4d{d:Bool}(H:a04){tb:List (List Nat)}{n:Nat}{A:AV}(h:Tab tb n A)(h30:tb.length≤100):a0d L.env d (sem L.env Mf) (.func (.func 25) [] []) [A,.int .i64 n] H=some (.tuple [lsV (a1k tb n),.int .i64 0],H,[]):=a07 (by kernel_rfl) (by kernel_rfl) rfl (by simp[a0a,h.val.refs,refs]) (b9h h h30) (by simp[refs,a0a,a2n])
theorem a58{d:Bool}{tb:List (List Nat)}{A:AV}(hA:TBv tb A)(hs:c0e tb)(H:a04){l:List Nat}{V:AV}(hV:RV l V)(hl:l.length<1000000):a0d L.env d (sem L.env Mf) (.func (.func 67) [] []) [A,V] H=some (.bool (a4g tb l),H,[]):=a07 (by kernel_rfl) (by kernel_rfl) rfl (by simp[a0a,hV.refs,hA.refs]) (b9m tb A hA hs l V [] hV.ri hl) rfl
def alN(tb:List (List Nat))(t i:Nat):List Nat:=a1k tb t++if(tb.take i).contains [t]then[t]else[]
theorem d2f(tb:List (List Nat))(t:Nat):alN tb t 0=a1k tb t:=by simp[alN]
theorem d7w(tb:List (List Nat))(t:Nat):alN tb t tb.length=a1k tb (t+1):=by
 unfold alN a1k;rw[List.take_length,List.range_succ,List.filter_append]
 congr 1
 by_cases h:tb.contains [t]=true
 ·rw[if_pos h,List.filter_cons,h,List.filter_nil];rfl
 ·have h':tb.contains [t]=false:=by simpa using h
  rw[if_neg h,List.filter_cons,h',List.filter_nil];rfl
theorem c92{tb:List (List Nat)}{n t:Nat}(h:t∈a1k tb n):t<n:=List.mem_range.1 (List.mem_filter.1 h).1
theorem b5u(tb:List (List Nat))(n:Nat):(a1k tb n).length≤n:=Nat.le_trans (List.length_filter_le _ _) (by simp)
theorem d7u(tb:List (List Nat))(t i:Nat):(alN tb t i).length≤t+1:=by unfold alN;have:=b5u tb t;split<;>simp<;>omega
theorem d7v(tb:List (List Nat))(t i:Nat):(alN tb t i).contains t=(tb.take i).contains [t]:=by
 rw[Bool.eq_iff_iff,List.contains_iff_mem];unfold alN;rw[List.mem_append];constructor
 ·rintro(h|h)
  ·have:=c92 h;omega
  ·by_cases hc:(tb.take i).contains [t]=true
   ·exact hc
   ·rw[if_neg hc]at h;simp at h
 ·intro h;rw[if_pos h];simp
theorem d2g{tb:List (List Nat)}{t i:Nat}{r:List Nat}(h:tb[i]?=some r):alN tb t (i+1)=if r=[t]∧(alN tb t i).contains t=false then alN tb t i++[t]else alN tb t i:=by
 rw[d7v];unfold alN;have ht:(tb.take (i+1)).contains [t]=((tb.take i).contains [t]||decide (r=[t])):=by rw[List.take_add_one,h,Bool.eq_iff_iff,Bool.or_eq_true,List.contains_iff_mem,List.contains_iff_mem,decide_eq_true_eq,List.mem_append];simp[eq_comm]
 rw[ht];by_cases h1:(tb.take i).contains [t]=true
 ·rw[h1];simp
 ·have h1:(tb.take i).contains [t]=false:=by simpa using h1
  rw[h1];by_cases h2:r=[t]
  ·simp[h2]
  ·simp[h2]
theorem c4u(xs:List Nat)(c:Option (Option Nat))(hx:∀x∈xs,x<256)(m:Nat)(hm:m<256):sem L.env Mf 26 [sl c (xs.map u8R),.int .u8 m] []=some (.bool true,[]):=by
 have hlv:=λH=>a5q (d:=false) H
 suffices hs:∃r:AV×a04,(r=(.bool true,[]))∧sem L.env Mf 26 [sl c (xs.map u8R),.int .u8 m] []=some r by obtain⟨r,rfl,h3⟩:=hs;exact h3
 by_cases hbig:30<xs.length
 ·have c0:(30:Int)<xs.length:=by omega
  (refine svE Tryz.f26 ?_;simp only[Tryz.f26,gS])
  (repeat first|simp only[ww]|(apply xa;simp+decide only[go_sem,List.length_map,c0,hlv];rfl;kernel_rfl))
  refine a3q (vs:=[.bool true]) (r:=(_,_)) (by simp+decide only[go_sem]) ?_ rfl;simp+decide only[go_sem,a0j]<;>rfl
 have c0:¬(30:Int)<xs.length:=by omega
 have hta:=b4l (d:=false) [] xs c hx (by omega) m hm;have hn8:m%9≤8:=by omega
 generalize m%9=n at hta hn8;have hT:=d37 (xs:=xs) (n:=n) (by omega) hn8;generalize htb:c5d xs n=tb at hta hT;have htl:tb.length≤30:=by rw[←htb];simp[c5d];omega
 have hrev:=b0o (d:=false) [] hT;obtain⟨gl,hgl,hgr⟩:=b35 hT;have hgr:=hgr false [];have hle:=c4k (d:=false) [] hT hn8;have hes:=b4d (d:=false) [] hT (by omega);generalize hA:tbV tb=A at hta hT hrev hgr hle hes;have hAr:=hT.val.refs;have hAn:∀π,ren π A=A:=λπ=>a0f π A hAr;have hAf:∀b d,a23 0 b d A=some A:=λb d=>a16 _ _ d A hAr;have hsm:=hT.small;have hp:=e8w hn8;obtain⟨kg,hge,hgc,hgk⟩:=hgl;have hglt:=c7i hT.lt kg hgk;have hgln:=b6z tb n kg;have hgsm:=a5s hT.lt kg hgk;rw[←hge]at hglt hgln hgsm;have hLa:=b90 hT.lt;have hLlt:=c2t tb n n [] (Nat.le_refl _) (by simp);have hLln:=a8r tb n [];have hBc:=b8z hT.lt (2^n);have hBa:=b8x hT.lt hn8 hLlt hLa;have hBg:=b8x hT.lt hn8 hglt hgc;have hBln:=a7a (a1a tb n (2^n)) n;have halc:=λt (h:t∈a1k tb n)=>b7g h hBc;have hala:=λt (h:t∈a1k tb n)=>b7g h hLa;have halg:=λt (h:t∈a1k tb n)=>b7g h hgc;simp only[List.length_nil,Nat.zero_add]at hLln;have hcA:=a58 (d:=false) hT.val hsm [] (a6j (later tb n [])) (by omega);have hcG:=a58 (d:=false) hT.val hsm [] (a6j gl) (by omega);have hcB:=a58 (d:=false) hT.val hsm [] (a6j (a0i (a1a tb n (2^n)) n)) (by omega);rw[hLa]at hcA;rw[hgc]at hcG;rw[hBc]at hcB;have hfin:=Nat.le_refl (2^n);generalize hLL:later tb n []=La at *;generalize hBB:a0i (a1a tb n (2^n)) n=Lb at *;have h1r:=a2n La;have h1n:∀π,ren π (lsV La)=lsV La:=λπ=>a0f π _ h1r;have h1f:∀b d,a23 0 b d (lsV La)=some (lsV La):=λb d=>a16 _ _ d _ h1r;have h2r:=a2n gl;have h2n:∀π,ren π (lsV gl)=lsV gl:=λπ=>a0f π _ h2r;have h2f:∀b d,a23 0 b d (lsV gl)=some (lsV gl):=λb d=>a16 _ _ d _ h2r;have h3r:=a2n Lb;have h3n:∀π,ren π (lsV Lb)=lsV Lb:=λπ=>a0f π _ h3r;have h3f:∀b d,a23 0 b d (lsV Lb)=some (lsV Lb):=λb d=>a16 _ _ d _ h3r;have h4r:=a2n (a1k tb n);have h4n:∀π,ren π (lsV (a1k tb n))=lsV (a1k tb n):=λπ=>a0f π _ h4r;have h4f:∀b d,a23 0 b d (lsV (a1k tb n))=some (lsV (a1k tb n)):=λb d=>a16 _ _ d _ h4r;have hl1:=a3k (a6j La);have hl2:=a3k (a6j gl);have hl3:=a3k (a6j Lb);have d1:¬(La.length:Int)<Lb.length:=by omega
 have d2:¬(gl.length:Int)<Lb.length:=by omega
 (refine svE Tryz.f26 ?_;simp only[Tryz.f26,gS])
 (repeat first|simp only[ww]|(apply xa;simp+decide only[go_sem,List.length_map,c0,hta,hrev,hgr,hle,hes,hcA,hcG,hcB,hl1,hl2,hl3,d1,d2];rfl;kernel_rfl))
 refine a0t kp26_0 (λq F H1=>∃(k:Nat) (B:AV),q=2^n-k∧k≤2^n∧F=[(5,A),(6,.int .i64 n),(7,lsV La),(9,lsV gl),(11,lsV Lb),(13,lsV (a1k tb n)),(15,B),(16,.bool (a5u tb n k)),(17,.int .i64 k)]∧H1=[]∧
  B=if a5u tb n k then slI (a0i (a1a tb n k) n)else .nilslice) (2^n) ?_ ?_
 ·refine⟨_,_,?_,0,.nilslice,rfl,Nat.zero_le _,rfl,rfl,rfl⟩
  (simp+decide only[go_sem,a03,a00,hAr,hAn,h1r,h1n,h2r,h2n,h3r,h3n,h4r,h4n]<;>rfl)<;>rfl
 ·rintro q F H1 ⟨k,B,rfl,hk,rfl,rfl,hB⟩
  have hsh:e1g .i64 1 (n:Int)=((2^n:Nat):Int):=by
   unfold e1g;have:min (n:Int).toNat IntKind.i64.bits=n:=by simp[IntKind.bits];omega
   rw[this,Int.one_mul,show(2:Int)^n=((2^n:Nat):Int) by simp,w64 (by omega) (by omega)]
  have hn0:((n:Int)<0)=False:=eq_false (by omega);by_cases hlt:k<2^n
  ·have c1:((k:Int)<((2^n:Nat):Int))=True:=eq_true (by omega);have hw:=wI1 (n:=k) (by omega);have hch:=c1n (d:=false) [] k n hn8;have hkr:=a53 (a0i k n);have hkn:∀π,ren π (slI (a0i k n))=slI (a0i k n):=λπ=>a0f π _ hkr;have hkl:=a7a k n;have hcv:=a58 (d:=false) hT.val hsm [] (b21 (a0i k n)) (by omega);have hkL:=a3k (b21 (a0i k n));have hfs:=b3a tb n k;have hstep:=d0o hT.lt hn8 hlt;by_cases hcov:a4g tb (a0i k n)=true
   ·rw[hcov]at hcv hfs hstep;rw[Bool.or_true]at hfs;rw[Bool.true_and]at hstep;by_cases hf:a5u tb n k=true
    ·rw[hf]at hB hstep;rw[if_pos rfl]at hB;subst hB;rw[hf];have hstay:=d0p hn8 hlt hf;rw[hcov,hf]at hstay;rw[Bool.true_and]at hstay;rw[Bool.not_true,Bool.false_or]at hstep hstay;have hbr:=a53 (a0i (a1a tb n k) n);have hbn:∀π,ren π (slI (a0i (a1a tb n k) n))=slI (a0i (a1a tb n k) n):=λπ=>a0f π _ hbr;have hbl:=a7a (a1a tb n k) n;have hbL:=a3k (b21 (a0i (a1a tb n k) n));have hfi:=c4s (d:=false) [] (a0i k n) (a0i (a1a tb n k) n) (by omega) (by omega);by_cases hlt2:(a0i k n).length<(a0i (a1a tb n k) n).length
     ·have e1:(((a0i k n).length:Int)<(a0i (a1a tb n k) n).length)=True:=eq_true (by omega);rw[decide_eq_true hlt2]at hstep;have hst:=hstep rfl
      (repeat first|simp only[ww]|(apply xa;simp+decide only[go_sem,hn0,hsh,c1,hch,hcv,hkL,hbL,e1,hw];rfl;kernel_rfl))
      refine a0b (2^n-(k+1)) (by omega) ⟨_,_,?_,k+1,slI (a0i k n),rfl,hlt,rfl,rfl,by rw[hfs,if_pos rfl,hst]⟩;rw[hfs]
      (simp+decide only[go_sem,a03,a00,hAr,hAn,h1r,h1n,h2r,h2n,h3r,h3n,h4r,h4n,hkr,hkn]<;>rfl)<;>rfl
     ·have e1:(((a0i k n).length:Int)<(a0i (a1a tb n k) n).length)=False:=eq_false (by omega);rw[decide_eq_false hlt2,Bool.false_or]at hstep hstay;by_cases heq:(a0i k n).length=(a0i (a1a tb n k) n).length
      ·have e2:(((a0i k n).length:Int)=(a0i (a1a tb n k) n).length)=True:=eq_true (by omega);rw[decide_eq_true heq,Bool.true_and]at hstep hstay;by_cases hfl:a2b (a0i k n) (a0i (a1a tb n k) n)=true
       ·have hst:=hstep hfl;rw[hfl]at hfi
        (repeat first|simp only[ww]|(apply xa;simp+decide only[go_sem,hn0,hsh,c1,hch,hcv,hkL,hbL,e1,e2,hfi,hw];rfl;kernel_rfl))
        refine a0b (2^n-(k+1)) (by omega) ⟨_,_,?_,k+1,slI (a0i k n),rfl,hlt,rfl,rfl,by rw[hfs,if_pos rfl,hst]⟩;rw[hfs]
        (simp+decide only[go_sem,a03,a00,hAr,hAn,h1r,h1n,h2r,h2n,h3r,h3n,h4r,h4n,hkr,hkn]<;>rfl)<;>rfl
       ·have hfl:a2b (a0i k n) (a0i (a1a tb n k) n)=false:=by simpa using hfl
        have hst:=hstay hfl;rw[hfl]at hfi
        (repeat first|simp only[ww]|(apply xa;simp+decide only[go_sem,hn0,hsh,c1,hch,hcv,hkL,hbL,e1,e2,hfi,hw];rfl;kernel_rfl))
        refine a0b (2^n-(k+1)) (by omega) ⟨_,_,?_,k+1,slI (a0i (a1a tb n k) n),rfl,hlt,rfl,rfl,by rw[hfs,if_pos rfl,hst]⟩;rw[hfs]
        (simp+decide only[go_sem,a03,a00,hAr,hAn,h1r,h1n,h2r,h2n,h3r,h3n,h4r,h4n,hbr,hbn]<;>rfl)<;>rfl
      ·have e2:(((a0i k n).length:Int)=(a0i (a1a tb n k) n).length)=False:=eq_false (by omega);rw[decide_eq_false heq,Bool.false_and]at hstay;have hst:=hstay rfl
       (repeat first|simp only[ww]|(apply xa;simp+decide only[go_sem,hn0,hsh,c1,hch,hcv,hkL,hbL,e1,e2,hw];rfl;kernel_rfl))
       refine a0b (2^n-(k+1)) (by omega) ⟨_,_,?_,k+1,slI (a0i (a1a tb n k) n),rfl,hlt,rfl,rfl,by rw[hfs,if_pos rfl,hst]⟩;rw[hfs]
       (simp+decide only[go_sem,a03,a00,hAr,hAn,h1r,h1n,h2r,h2n,h3r,h3n,h4r,h4n,hbr,hbn]<;>rfl)<;>rfl
    ·have hf:a5u tb n k=false:=by simpa using hf
     rw[hf]at hB hstep;rw[if_neg (by decide)]at hB;subst hB;rw[hf];have hst:=hstep rfl
     (repeat first|simp only[ww]|(apply xa;simp+decide only[go_sem,hn0,hsh,c1,hch,hcv,hw];rfl;kernel_rfl))
     refine a0b (2^n-(k+1)) (by omega) ⟨_,_,?_,k+1,slI (a0i k n),rfl,hlt,rfl,rfl,by rw[hfs,if_pos rfl,hst]⟩;rw[hfs]
     (simp+decide only[go_sem,a03,a00,hAr,hAn,h1r,h1n,h2r,h2n,h3r,h3n,h4r,h4n,hkr,hkn]<;>rfl)<;>rfl
   ·have hcov:a4g tb (a0i k n)=false:=by simpa using hcov
    rw[hcov]at hcv hfs;rw[Bool.or_false]at hfs;have hst:a1a tb n (k+1)=a1a tb n k:=by simp only[a1a,hcov,Bool.false_and,Bool.false_eq_true,if_false]
    have hbr:refs B=[]:=by rw[hB];split;exact a53 _;rfl
    have hbn:∀π,ren π B=B:=λπ=>a0f π _ hbr
    (repeat first|simp only[ww]|(apply xa;simp+decide only[go_sem,hn0,hsh,c1,hch,hcv,hw];rfl;kernel_rfl))
    refine a0b (2^n-(k+1)) (by omega) ⟨_,_,?_,k+1,B,rfl,hlt,rfl,rfl,by rw[hfs,hst];exact hB⟩;rw[hfs]
    (simp+decide only[go_sem,a03,a00,hAr,hAn,h1r,h1n,h2r,h2n,h3r,h3n,h4r,h4n,hbr,hbn]<;>rfl)<;>rfl
  ·obtain rfl:k=2^n:=by omega
   have c1:(((2^n:Nat):Int)<((2^n:Nat):Int))=False:=eq_false (by omega);rw[b9c hT.lt,if_pos rfl,hBB]at hB;subst hB;have hbr:=a53 Lb;have hbn:∀π,ren π (slI Lb)=slI Lb:=λπ=>a0f π _ hbr;have hbf:∀b d,a23 0 b d (slI Lb)=some (slI Lb):=λb d=>a16 _ _ d _ hbr;have hiB:=b93 (d:=false) [] (b21 Lb) (by omega);rw[b9c hT.lt]
   (repeat first|simp only[ww]|(apply xa;simp+decide only[go_sem,hn0,hsh,c1];rfl;kernel_rfl))
   refine c27 kp26_2 rfl (λq F H1=>∃(t:Nat) (V:AV) (H:a04),q=n-t∧t≤n∧F=[(5,A),(6,.int .i64 n),(7,lsV La),(9,lsV gl),(11,lsV Lb),(13,lsV (a1k tb n)),(15,slI Lb),(19,V),(20,.int .i64 t),(1000000,.junk)]∧H1=H∧LN (a1k tb t) V H) n ?_ ?_
   ·refine⟨_,_,?_,0,.nilslice,[],rfl,Nat.zero_le _,rfl,rfl,.nil rfl⟩
    (simp+decide only[go_sem,a03,a00,hAr,hAn,h1r,h1n,h2r,h2n,h3r,h3n,h4r,h4n,hbr,hbn]<;>rfl)<;>rfl
   ·rintro q F H1 ⟨t,V,H,rfl,ht,rfl,rfl,hLN⟩
    by_cases htl:t<n
    ·have d3:(t:Int)<n:=by omega
     have htw:=wI1 (n:=t) (by omega)
     (repeat first|simp only[ww]|(apply xa;simp+decide only[go_sem,d3];rfl;kernel_rfl))
     refine a0t kp26_4 (λq F H1=>∃(i:Nat) (V:AV) (H:a04),q=tb.length-i∧i≤tb.length∧F=[(5,A),(6,.int .i64 n),(7,lsV La),(9,lsV gl),(11,lsV Lb),(13,lsV (a1k tb n)),(15,slI Lb),(19,V),(20,.int .i64 t),(21,.int .i64 i)]∧H1=H∧LN (alN tb t i) V H) tb.length ?_ ?_
     ·refine⟨_,_,?_,0,V,_,rfl,Nat.zero_le _,rfl,rfl,by rw[d2f];exact hLN⟩;cases hLN<;>((simp+decide only[go_sem,a03,a00,hAr,hAn,h1r,h1n,h2r,h2n,h3r,h3n,h4r,h4n,hbr,hbn,a2c,a5m]<;>rfl)<;>rfl)
     ·rintro q F H2 ⟨i,V,H,rfl,hi,rfl,rfl,hLN⟩
      have hlen:=a8e hT.val;by_cases hil:i<tb.length
      ·obtain⟨r,hrr⟩:∃r,tb[i]?=some r:=⟨_,z9e hil⟩
       obtain⟨p,W,hp1,hp2,hW⟩:=a8f hT.val (a01 H2) hrr;have hwl:=a3k hW;have e1:(i:Int)<tb.length:=by omega
       have hw:=wI1 (n:=i) (by omega);have hal:=d2g (t:=t) hrr;have hln:=d7u tb t i;have hin:=c7e hLN.ls.ri (by omega) (d:=false) t;have hrm:(alN tb t i).length+1≤1000000000:=by omega
       have hstay:alN tb t (i+1)=alN tb t i→LN (alN tb t (i+1)) V H2:=λe=>by rw[e];exact hLN
       have hgc:∀x:Int,∀z:List (Nat×AV),gcD 0 [5,6,7,9,11,13,15,19,20,21] ([(21,.int .i64 x)]++z) H2=gcD 0 [5,6,7,9,11,13,15,19,20,21] ([(21,.int .i64 x)]++z) H2:=λ_ _=>rfl;by_cases h1:r.length=1
       ·obtain⟨v,rfl⟩:=List.length_eq_one_iff.1 h1;obtain⟨p2,hq1,hq2⟩:=b25 hW (a01 H2) (i:=0) (v:=v) rfl;simp only[Int.natCast_zero]at hq1;have hc1:((List.length [v]:Nat):Int)=1:=rfl;by_cases hvt:v=t
        ·subst hvt;by_cases hc2:(alN tb v i).contains v=true
         ·rw[if_neg (by rw[hc2];simp)]at hal;rw[hc2]at hin;have hLN2:=hstay hal
          (repeat first|simp only[ww]|(apply xa;simp+decide only[go_sem,hlen,e1,hp1,hp2,hwl,hc1,hq1,hq2,hin,hw];rfl;kernel_rfl))
          refine a0b (tb.length-(i+1)) (by omega) ⟨_,_,?_,i+1,V,_,rfl,hil,rfl,rfl,hLN2⟩;cases hLN<;>((simp+decide only[go_sem,a03,a00,hAr,hAn,h1r,h1n,h2r,h2n,h3r,h3n,h4r,h4n,hbr,hbn,a2c,a5m]<;>rfl)<;>rfl)
         ·have hc2:(alN tb v i).contains v=false:=by simpa using hc2
          rw[if_pos ⟨rfl,hc2⟩]at hal;rw[hc2]at hin;generalize alN tb v i=o at hal hln hin hrm hLN;cases hLN with
          |nil h0=>
           subst h0
           (repeat first|simp only[ww]|(apply xa;simp+decide only[go_sem,hlen,e1,hp1,hp2,hwl,hc1,hq1,hq2,hin,hw];rfl;kernel_rfl))
           refine a0b (tb.length-(i+1)) (by omega) ⟨_,_,?_,i+1,.slice 0 0 ([]++[v]).length none,_,rfl,hil,rfl,rfl,by rw[hal];exact .blk (by simp)⟩
           (simp+decide only[go_sem,a03,a00,hAr,hAn,h1r,h1n,h2r,h2n,h3r,h3n,h4r,h4n,hbr,hbn,List.nil_append,List.map_cons,List.map_nil,List.length_cons,List.length_nil]<;>rfl)<;>rfl
          |blk h0=>
           (repeat first|simp only[ww]|(apply xa;simp+decide only[go_sem,hlen,e1,hp1,hp2,hwl,hc1,hq1,hq2,hin,hw,hrm,List.length_map];rfl;kernel_rfl))
           refine a0b (tb.length-(i+1)) (by omega) ⟨_,_,?_,i+1,.slice 0 0 (o++[v]).length none,_,rfl,hil,rfl,rfl,by rw[hal];exact .blk (by simp)⟩
           (simp+decide only[go_sem,a03,a00,hAr,hAn,h1r,h1n,h2r,h2n,h3r,h3n,h4r,h4n,hbr,hbn,List.map_append,List.map_cons,List.map_nil,List.length_append,List.length_cons,List.length_nil,a2c,a5m]<;>rfl)<;>rfl
        ·have hc3:((v:Int)=t)=False:=eq_false (by omega);rw[if_neg (by simp[hvt])]at hal;have hLN2:=hstay hal
         (repeat first|simp only[ww]|(apply xa;simp+decide only[go_sem,hlen,e1,hp1,hp2,hwl,hc1,hq1,hq2,hc3,hw];rfl;kernel_rfl))
         refine a0b (tb.length-(i+1)) (by omega) ⟨_,_,?_,i+1,V,_,rfl,hil,rfl,rfl,hLN2⟩;cases hLN<;>((simp+decide only[go_sem,a03,a00,hAr,hAn,h1r,h1n,h2r,h2n,h3r,h3n,h4r,h4n,hbr,hbn,a2c,a5m]<;>rfl)<;>rfl)
       ·have hc1:(((r.length:Nat):Int)=1)=False:=eq_false (by omega);rw[if_neg (by rintro⟨e,_⟩;rw[e]at h1;exact h1 rfl)]at hal;have hLN2:=hstay hal
        (repeat first|simp only[ww]|(apply xa;simp+decide only[go_sem,hlen,e1,hp1,hp2,hwl,hc1,hw];rfl;kernel_rfl))
        refine a0b (tb.length-(i+1)) (by omega) ⟨_,_,?_,i+1,V,_,rfl,hil,rfl,rfl,hLN2⟩;cases hLN<;>((simp+decide only[go_sem,a03,a00,hAr,hAn,h1r,h1n,h2r,h2n,h3r,h3n,h4r,h4n,hbr,hbn,a2c,a5m]<;>rfl)<;>rfl)
      ·obtain rfl:i=tb.length:=by omega
       have e1:¬(tb.length:Int)<tb.length:=by omega
       rw[d7w]at hLN
       (repeat first|simp only[ww]|(apply xa;simp+decide only[go_sem,hlen,e1,htw];rfl;kernel_rfl))
       refine a0b (n-(t+1)) (by omega) ⟨_,_,?_,t+1,V,_,rfl,htl,rfl,rfl,hLN⟩;cases hLN<;>((simp+decide only[go_sem,a03,a00,hAr,hAn,h1r,h1n,h2r,h2n,h3r,h3n,h4r,h4n,hbr,hbn,a2c,a5m]<;>rfl)<;>rfl)
    ·obtain rfl:t=n:=by omega
     have d3:¬(t:Int)<t:=by omega
     obtain⟨W,hW1,hW2⟩:=hLN.ls.frz
     (repeat first|simp only[ww]|(apply xa;simp+decide only[go_sem,d3];rfl;kernel_rfl))
     rw[c4p];simp+decide only[go_sem,hAf,h1f,h2f,h3f,h4f,hbf,hW1];have hWr:=hW2.refs;have hWn:∀π,ren π W=W:=λπ=>a0f π W hWr;have hall:=b5u tb t;have hiW:=b93 (d:=false) [] hW2 (by omega);generalize a1k tb t=al at *;have hWl:=a3k hW2
     (repeat first|simp only[ww]|(apply xa;simp+decide only[go_sem];rfl;kernel_rfl))
     refine a0t kp26_6 (λq F H1=>∃(i:Nat),q=al.length-i∧i≤al.length∧F=[(7,lsV La),(9,lsV gl),(11,lsV Lb),(13,lsV al),(15,slI Lb),(19,W),(22,.int .i64 i)]∧H1=[]) al.length ?_ ?_
     ·refine⟨_,_,?_,0,rfl,Nat.zero_le _,rfl,rfl⟩
      (simp+decide only[go_sem,a03,a00,hAr,hAn,h1r,h1n,h2r,h2n,h3r,h3n,h4r,h4n,hbr,hbn,hWr,hWn]<;>rfl)<;>rfl
     ·rintro q F H1 ⟨i,rfl,hi,rfl,rfl⟩
      by_cases hil:i<al.length
      ·obtain⟨v,hv⟩:∃v,al[i]?=some v:=⟨_,z9e hil⟩
       have hvm:=List.mem_of_getElem? hv;obtain⟨p,hp1,hp2⟩:=b25 hW2 (a01 []) hv;have hi1:=a8t (d:=false) [] (a6j La) (by omega) v;have hi2:=a8t (d:=false) [] (a6j gl) (by omega) v;have hi3:=a8t (d:=false) [] (a6j Lb) (by omega) v;rw[hala v hvm]at hi1;rw[halg v hvm]at hi2;rw[halc v hvm]at hi3;have e1:(i:Int)<al.length:=by omega
       have hw:=wI1 (n:=i) (by omega)
       (repeat first|simp only[ww]|(apply xa;simp+decide only[go_sem,hWl,e1,hp1,hp2,hi1,hi2,hi3,hw];rfl;kernel_rfl))
       refine a0b (al.length-(i+1)) (by omega) ⟨_,_,?_,i+1,rfl,hil,rfl,rfl⟩
       (simp+decide only[go_sem,a03,a00,hAr,hAn,h1r,h1n,h2r,h2n,h3r,h3n,h4r,h4n,hbr,hbn,hWr,hWn]<;>rfl)<;>rfl
      ·obtain rfl:i=al.length:=by omega
       have e1:¬(al.length:Int)<al.length:=by omega
       (repeat first|simp only[ww]|(apply xa;simp+decide only[go_sem,hWl,e1,hiB,hiW,hlv];rfl;kernel_rfl))
       refine a3q (vs:=[.bool true]) (r:=(_,_)) (by simp+decide only[go_sem]) ?_ rfl;simp+decide only[go_sem,a0j]<;>rfl
end Go.QInst
