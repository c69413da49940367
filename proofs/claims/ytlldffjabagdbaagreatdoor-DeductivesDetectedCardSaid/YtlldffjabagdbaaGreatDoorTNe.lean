/- Part of a proof. No condition. -/
import Derived.Test.YtlldffjabagdbaaGreatDoorTGa
import Derived.Test.YtlldffjabagdbaaGreatDoorPcB
import Derived.Test.YtlldffjabagdbaaGreatDoorAxD
set_option linter.unusedSimpArgs false
set_option linter.unusedVariables false
namespace Go.TInst
open Go.Proofs Go.Ax Go.Pc
set_option maxRecDepth 100000
theorem d9k(v:Nat)(hv:v<256):sem L.env Mf 101 [.int .u8 v] []=some (.int .u8 (a2i v:Nat),[]):=by
 by_cases h:3<v
 ·have c:(3:Int)<v:=by omega
  rw[show a2i v=2 by simp[a2i,h]]
  (refine sv Tryz.f101 ?_;simp only[Tryz.f101,gS])
  (repeat first|simp only[ww]|(apply xa;simp+decide only[go_sem,c];rfl;kernel_rfl))
  (apply fqb;simp+decide only[go_sem]<;>rfl)
 ·have c:¬(3:Int)<v:=by omega
  rw[show a2i v=v by simp[a2i,h]]
  (refine sv Tryz.f101 ?_;simp only[Tryz.f101,gS])
  (repeat first|simp only[ww]|(apply xa;simp+decide only[go_sem,c];rfl;kernel_rfl))
  (apply fqb;simp+decide only[go_sem]<;>rfl)
theorem d0g{d:Bool}(H:a03)(v:Nat)(hv:v<256):a0b L.env d (sem L.env Mf) (.func (.func 101) [] []) [.int .u8 v] H=some (.int .u8 (a2i v:Nat),H,[]):=a04 (by kernel_rfl) (by kernel_rfl) rfl rfl (d9k v hv) rfl
theorem f1p:-BitVec.ofInt 64 0=0#64:=by decide
theorem f1o:-BitVec.ofInt 64 1=BitVec.allOnes 64:=by decide
theorem e4r(v:Nat)(hv:v<256):sem L.env Mf 81 [.int .u8 v] []=some (.agg (a1i v).enc,[]):=by
 have hc:=λH=>d0g (d:=false) H v hv;have h4:a2i v<4:=by unfold a2i;split<;>omega
 have hw:a1i v=match a2i v with
  |0=>⟨0#64,BitVec.allOnes 64⟩
  |1=>⟨BitVec.allOnes 64,0#64⟩
  |2=>⟨0#64,0#64⟩
  |_=>⟨BitVec.allOnes 64,BitVec.allOnes 64⟩:=rfl
 rw[hw];generalize a2i v=c at hc h4;have h:c=0∨c=1∨c=2∨c=3:=by omega
 rcases h with rfl|rfl|rfl|rfl
 ·(refine sv Tryz.f81 ?_;simp only[Tryz.f81,gS])
  (repeat first|simp only[ww]|(apply xa;simp+decide only[go_sem,hc,f1p,f1o];rfl;kernel_rfl))
  (apply fqb;simp+decide only[go_sem]<;>rfl)
 ·(refine sv Tryz.f81 ?_;simp only[Tryz.f81,gS])
  (repeat first|simp only[ww]|(apply xa;simp+decide only[go_sem,hc,f1p,f1o];rfl;kernel_rfl))
  (apply fqb;simp+decide only[go_sem]<;>rfl)
 ·(refine sv Tryz.f81 ?_;simp only[Tryz.f81,gS])
  (repeat first|simp only[ww]|(apply xa;simp+decide only[go_sem,hc,f1p,f1o];rfl;kernel_rfl))
  (apply fqb;simp+decide only[go_sem]<;>rfl)
 ·(refine sv Tryz.f81 ?_;simp only[Tryz.f81,gS])
  (repeat first|simp only[ww]|(apply xa;simp+decide only[go_sem,hc,f1p,f1o];rfl;kernel_rfl))
  (apply fqb;simp+decide only[go_sem]<;>rfl)
theorem b6y{d:Bool}(H:a03)(v:Nat)(hv:v<256):a0b L.env d (sem L.env Mf) (.func (.func 81) [] []) [.int .u8 v] H=some (.agg (a1i v).enc,H,[]):=a04 (by kernel_rfl) (by kernel_rfl) rfl rfl (e4r v hv) rfl
theorem a6r{d:Bool}(H:a03)(v:Nat)(hv:v<256){n:Int}(hn:n=v):a0b L.env d (sem L.env Mf) (.func (.func 81) [] []) [.int .u8 n] H=some (.agg (a1i v).enc,H,[]):=by subst hn;exact b6y H v hv
theorem e1s(l:List W)(hl:l.length<1000000):sem L.env Mf 126 [.slice 0 0 l.length (some l.length)] [some (.row 2 (l.map W.enc))]=some (.agg (a7g d61 (a1i 1) l).enc,[some (.row 2 (l.map W.enc))]):=by
 have hc:=λH=>a6r (d:=false) H 1 (by omega) (n:=1) rfl;generalize a1i 1=z at hc;simp only[go_sem]at hc
 (refine sv Tryz.f126 ?_;simp only[Tryz.f126,gS])
 (repeat first|simp only[ww]|(apply xa;simp+decide only[go_sem,hc];rfl;kernel_rfl))
 refine a29 (σ:=Nat) kp126_0 (λi=>[(2,.ptr 1 0 0),(3,.ptr 2 0 0),(7,.slice 0 0 l.length (some l.length)),(8,.int .i64 l.length),(9,.int .i64 i)])
  (λi=>[some (.row 2 (l.map W.enc)),some (.row 2 [[u64 (BitVec.ofInt 64 0),u64 (BitVec.ofInt 64 0)]]),some (.row 2 [(a7g d61 z (l.take i)).enc])]) (λi=>l.length-i) (λi=>i≤l.length) 0 ?_ (f4m _) ?_ ?_
 ·(simp+decide only[go_sem,a02,a00,f6b]<;>rfl)
 ·intro i _
  (simp+decide only[go_sem,a02,a00]<;>rfl)
 ·intro i hi;by_cases ah:i<l.length
  ·obtain⟨x,hx⟩:∃x,l[i]?=some x:=⟨_,z9e ah⟩
   have c1:(i:Int)<l.length:=by omega
   have hw:=wI1 (n:=i) (by omega);have hs:=b2t (f:=d61) (z:=z) hx
   (repeat first|simp only[ww]|(apply xa;simp+decide only[go_sem,c1,ah,hx,hw];rfl;kernel_rfl))
   refine a21 (i+1) ?_ (by omega) (by omega);rw[hs]
   (simp+decide only[go_sem,a02,a00,d61]<;>rfl)
  ·obtain rfl:i=l.length:=by omega
   have c1:¬(l.length:Int)<l.length:=by omega
   rw[f6i]
   (repeat first|simp only[ww]|(apply xa;simp+decide only[go_sem,c1];rfl;kernel_rfl))
   (apply fqb;simp+decide only[go_sem]<;>rfl)
theorem e8m(l:List W)(hl:l.length<1000000):sem L.env Mf 127 [.slice 0 0 l.length (some l.length)] [some (.row 2 (l.map W.enc))]=some (.agg (a7g wOr (a1i 0) l).enc,[some (.row 2 (l.map W.enc))]):=by
 have hc:=λH=>a6r (d:=false) H 0 (by omega) (n:=0) rfl;generalize a1i 0=z at hc;simp only[go_sem]at hc
 (refine sv Tryz.f127 ?_;simp only[Tryz.f127,gS])
 (repeat first|simp only[ww]|(apply xa;simp+decide only[go_sem,hc];rfl;kernel_rfl))
 refine a29 (σ:=Nat) kp127_0 (λi=>[(2,.ptr 1 0 0),(3,.ptr 2 0 0),(7,.slice 0 0 l.length (some l.length)),(8,.int .i64 l.length),(9,.int .i64 i)])
  (λi=>[some (.row 2 (l.map W.enc)),some (.row 2 [[u64 (BitVec.ofInt 64 0),u64 (BitVec.ofInt 64 0)]]),some (.row 2 [(a7g wOr z (l.take i)).enc])]) (λi=>l.length-i) (λi=>i≤l.length) 0 ?_ (f4m _) ?_ ?_
 ·(simp+decide only[go_sem,a02,a00,f6b]<;>rfl)
 ·intro i _
  (simp+decide only[go_sem,a02,a00]<;>rfl)
 ·intro i hi;by_cases ah:i<l.length
  ·obtain⟨x,hx⟩:∃x,l[i]?=some x:=⟨_,z9e ah⟩
   have c1:(i:Int)<l.length:=by omega
   have hw:=wI1 (n:=i) (by omega);have hs:=b2t (f:=wOr) (z:=z) hx
   (repeat first|simp only[ww]|(apply xa;simp+decide only[go_sem,c1,ah,hx,hw];rfl;kernel_rfl))
   refine a21 (i+1) ?_ (by omega) (by omega);rw[hs]
   (simp+decide only[go_sem,a02,a00,wOr]<;>rfl)
  ·obtain rfl:i=l.length:=by omega
   have c1:¬(l.length:Int)<l.length:=by omega
   rw[f6i]
   (repeat first|simp only[ww]|(apply xa;simp+decide only[go_sem,c1];rfl;kernel_rfl))
   (apply fqb;simp+decide only[go_sem]<;>rfl)
theorem e0g(l:List W)(hl:l.length<1000000):sem L.env Mf 128 [.slice 0 0 l.length (some l.length)] [some (.row 2 (l.map W.enc))]=some (.agg (a7g d60 (a1i 0) l).enc,[some (.row 2 (l.map W.enc))]):=by
 have hc:=λH=>a6r (d:=false) H 0 (by omega) (n:=0) rfl;generalize a1i 0=z at hc;simp only[go_sem]at hc
 (refine sv Tryz.f128 ?_;simp only[Tryz.f128,gS])
 (repeat first|simp only[ww]|(apply xa;simp+decide only[go_sem,hc];rfl;kernel_rfl))
 refine a29 (σ:=Nat) kp128_0 (λi=>[(2,.ptr 1 0 0),(3,.ptr 2 0 0),(7,.slice 0 0 l.length (some l.length)),(8,.int .i64 l.length),(9,.int .i64 i)])
  (λi=>[some (.row 2 (l.map W.enc)),some (.row 2 [[u64 (BitVec.ofInt 64 0),u64 (BitVec.ofInt 64 0)]]),some (.row 2 [(a7g d60 z (l.take i)).enc])]) (λi=>l.length-i) (λi=>i≤l.length) 0 ?_ (f4m _) ?_ ?_
 ·(simp+decide only[go_sem,a02,a00,f6b]<;>rfl)
 ·intro i _
  (simp+decide only[go_sem,a02,a00]<;>rfl)
 ·intro i hi;by_cases ah:i<l.length
  ·obtain⟨x,hx⟩:∃x,l[i]?=some x:=⟨_,z9e ah⟩
   have c1:(i:Int)<l.length:=by omega
   have hw:=wI1 (n:=i) (by omega);have hs:=b2t (f:=d60) (z:=z) hx
   (repeat first|simp only[ww]|(apply xa;simp+decide only[go_sem,c1,ah,hx,hw];rfl;kernel_rfl))
   refine a21 (i+1) ?_ (by omega) (by omega);rw[hs]
   (simp+decide only[go_sem,a02,a00,d60]<;>rfl)
  ·obtain rfl:i=l.length:=by omega
   have c1:¬(l.length:Int)<l.length:=by omega
   rw[f6i]
   (repeat first|simp only[ww]|(apply xa;simp+decide only[go_sem,c1];rfl;kernel_rfl))
   (apply fqb;simp+decide only[go_sem]<;>rfl)
theorem c0h(a:W):sem L.env Mf 124 [.agg a.enc] []=some (.agg (a69 a).enc,[]):=by
 (refine sv Tryz.f124 ?_;simp only[Tryz.f124,gS])
 (repeat first|simp only[ww]|(apply xa;simp+decide only[go_sem];rfl;kernel_rfl))
 (apply fqb;simp+decide only[go_sem,a69]<;>rfl)
theorem c2n{d:Bool}(H:a03)(a:W):a0b L.env d (sem L.env Mf) (.func (.func 124) [] []) [.agg a.enc] H=some (.agg (a69 a).enc,H,[]):=a04 (by kernel_rfl) (by kernel_rfl) rfl rfl (c0h a) rfl
theorem e8t(a:W):sem L.env Mf 125 [.agg a.enc] []=some (.agg (e0h a).enc,[]):=by
 (refine sv Tryz.f125 ?_;simp only[Tryz.f125,gS])
 (repeat first|simp only[ww]|(apply xa;simp+decide only[go_sem];rfl;kernel_rfl))
 (apply fqb;simp+decide only[go_sem,e0h]<;>rfl)
theorem c7d{d:Bool}(H:a03)(a:W):a0b L.env d (sem L.env Mf) (.func (.func 125) [] []) [.agg a.enc] H=some (.agg (e0h a).enc,H,[]):=a04 (by kernel_rfl) (by kernel_rfl) rfl rfl (e8t a) rfl
theorem e8x(a b c:W):sem L.env Mf 129 [.agg a.enc,.agg b.enc,.agg c.enc] []=some (.agg (e6k a b c).enc,[]):=by
 (refine sv Tryz.f129 ?_;simp only[Tryz.f129,gS])
 (repeat first|simp only[ww]|(apply xa;simp+decide only[go_sem];rfl;kernel_rfl))
 (apply fqb;simp+decide only[go_sem,e6k]<;>rfl)
theorem c7g{d:Bool}(H:a03)(a b c:W):a0b L.env d (sem L.env Mf) (.func (.func 129) [] []) [.agg a.enc,.agg b.enc,.agg c.enc] H=some (.agg (e6k a b c).enc,H,[]):=a04 (by kernel_rfl) (by kernel_rfl) rfl rfl (e8x a b c) rfl
theorem e81(a b:W):sem L.env Mf 130 [.agg a.enc,.agg b.enc] []=some (.agg (e6j a b).enc,[]):=by
 (refine sv Tryz.f130 ?_;simp only[Tryz.f130,gS])
 (repeat first|simp only[ww]|(apply xa;simp+decide only[go_sem];rfl;kernel_rfl))
 (apply fqb;simp+decide only[go_sem,e6j]<;>rfl)
theorem c6z{d:Bool}(H:a03)(a b:W):a0b L.env d (sem L.env Mf) (.func (.func 130) [] []) [.agg a.enc,.agg b.enc] H=some (.agg (e6j a b).enc,H,[]):=a04 (by kernel_rfl) (by kernel_rfl) rfl rfl (e81 a b) rfl
theorem d8t(k:Nat)(hk:k<16):sem L.env Mf 56 [.int .u8 k] []=some (.tuple [.int .i64 (a1e k:Nat),.int .i64 (a1m k:Nat)],[]):=by
 have w:=wI (n:=k) (by omega);have c:¬(16:Int)≤k:=by omega
 have h:k=0∨k=1∨k=2∨k=3∨k=4∨k=5∨k=6∨k=7∨k=8∨k=9∨k=10∨k=11∨k=12∨k=13∨k=14∨k=15:=by omega
 rcases h with rfl|rfl|rfl|rfl|rfl|rfl|rfl|rfl|rfl|rfl|rfl|rfl|rfl|rfl|rfl|rfl
 all_goals
  (refine sv Tryz.f56 ?_;simp only[Tryz.f56,gS])
  (repeat first|simp only[ww]|(apply xa;simp+decide only[go_sem,w,c];rfl;kernel_rfl))
  (apply fqb;simp+decide only[go_sem]<;>rfl)
theorem e5f(c:Rep)(l:List W)(hl:l.length<1000000):sem L.env Mf 123 [sl c (l.map W.enc)] []=some (.agg (d18 l).enc,[]):=by
 (refine sv Tryz.f123 ?_;simp only[Tryz.f123,gS])
 (repeat first|simp only[ww]|(apply xa;simp+decide only[go_sem];rfl;kernel_rfl))
 refine a29 (σ:=Nat) kp123_0 (λi=>[(2,.ptr 0 0 0),(3,u64 (d0k (l.take i)).1),(4,u64 (d0k (l.take i)).2.1),(5,u64 (d0k (l.take i)).2.2),(8,sl c (l.map W.enc)),(9,.int .i64 l.length),(10,.int .i64 i)])
  (λ_=>[some (.row 2 [[u64 (BitVec.ofInt 64 0),u64 (BitVec.ofInt 64 0)]])]) (λi=>l.length-i) (λi=>i≤l.length) 0 ?_ (f4m _) ?_ ?_
 ·(simp+decide only[go_sem,a02,a00,f6b,d0k,List.foldl_nil]<;>rfl)
 ·intro i _
  (simp+decide only[go_sem,a02,a00]<;>rfl)
 ·intro i hi;by_cases ah:i<l.length
  ·obtain⟨x,hx⟩:∃x,l[i]?=some x:=⟨_,z9e ah⟩
   have c1:(i:Int)<l.length:=by omega
   have hw:=wI1 (n:=i) (by omega);have hs:=c4d hx
   (repeat first|simp only[ww]|(apply xa;simp+decide only[go_sem,c1,ah,hx,hw];rfl;kernel_rfl))
   refine a21 (i+1) ?_ (by omega) (by omega);rw[hs]
   (simp+decide only[go_sem,a02,a00,e5g]<;>rfl)
  ·obtain rfl:i=l.length:=by omega
   have c1:¬(l.length:Int)<l.length:=by omega
   rw[f6i]
   (repeat first|simp only[ww]|(apply xa;simp+decide only[go_sem,c1];rfl;kernel_rfl))
   (apply fqb;simp+decide only[go_sem,d18,e9y]<;>rfl)
theorem e5e(l:List W)(hl:l.length<1000000):sem L.env Mf 123 [.slice 0 0 l.length (some l.length)] [some (.row 2 (l.map W.enc))]=some (.agg (d18 l).enc,[some (.row 2 (l.map W.enc))]):=by
 (refine sv Tryz.f123 ?_;simp only[Tryz.f123,gS])
 (repeat first|simp only[ww]|(apply xa;simp+decide only[go_sem];rfl;kernel_rfl))
 refine a29 (σ:=Nat) kp123_0 (λi=>[(2,.ptr 1 0 0),(3,u64 (d0k (l.take i)).1),(4,u64 (d0k (l.take i)).2.1),(5,u64 (d0k (l.take i)).2.2),(8,.slice 0 0 l.length (some l.length)),(9,.int .i64 l.length),(10,.int .i64 i)])
  (λ_=>[some (.row 2 (l.map W.enc)),some (.row 2 [[u64 (BitVec.ofInt 64 0),u64 (BitVec.ofInt 64 0)]])]) (λi=>l.length-i) (λi=>i≤l.length) 0 ?_ (f4m _) ?_ ?_
 ·(simp+decide only[go_sem,a02,a00,f6b,d0k,List.foldl_nil]<;>rfl)
 ·intro i _
  (simp+decide only[go_sem,a02,a00]<;>rfl)
 ·intro i hi;by_cases ah:i<l.length
  ·obtain⟨x,hx⟩:∃x,l[i]?=some x:=⟨_,z9e ah⟩
   have c1:(i:Int)<l.length:=by omega
   have hw:=wI1 (n:=i) (by omega);have hs:=c4d hx
   (repeat first|simp only[ww]|(apply xa;simp+decide only[go_sem,c1,ah,hx,hw];rfl;kernel_rfl))
   refine a21 (i+1) ?_ (by omega) (by omega);rw[hs]
   (simp+decide only[go_sem,a02,a00,e5g]<;>rfl)
  ·obtain rfl:i=l.length:=by omega
   have c1:¬(l.length:Int)<l.length:=by omega
   rw[f6i]
   (repeat first|simp only[ww]|(apply xa;simp+decide only[go_sem,c1];rfl;kernel_rfl))
   (apply fqb;simp+decide only[go_sem,d18,e9y]<;>rfl)
set_option maxHeartbeats 200000000
theorem b0k{d:Bool}(H:a03)(k:Nat)(hk:k<16):a0b L.env d (sem L.env Mf) (.func (.func 56) [] []) [.int .u8 k] H=some (.tuple [.int .i64 (a1e k:Nat),.int .i64 (a1m k:Nat)],H,[]):=a04 (by kernel_rfl) (by kernel_rfl) rfl rfl (d8t k hk) rfl
theorem d9p{d:Bool}(H:a03)(c:Rep)(l:List W)(hl:l.length<1000000):a0b L.env d (sem L.env Mf) (.func (.func 123) [] []) [sl c (l.map W.enc)] H=some (.agg (d18 l).enc,H,[]):=a04 (by kernel_rfl) (by kernel_rfl) rfl (by simp only[go_sem]) (e5f c l hl) rfl
theorem e4n(l:List W):FlatO (some (.row 2 (l.map W.enc))):=FlatO.row (e4p l)
theorem d5h(l:List W)(hl:l.length<1000000)(X:Option AObj):a0b L.env false (sem L.env Mf) (.func (.func 126) [] []) [.slice 1 0 l.length (some l.length)] [X,some (.row 2 (l.map W.enc))]=some (.agg (a7g d61 (a1i 1) l).enc,[X,some (.row 2 (l.map W.enc))],[1]):=a4e [1] (by kernel_rfl) (by kernel_rfl) rfl (by simp+decide only[go_sem]) rfl rfl (by intro b hb;simp only[f6f]at hb;subst hb;exact e4n l) (by simp+decide only[go_sem]) (by simp+decide only[go_sem]) (e1s l hl) rfl
theorem d7b(l:List W)(hl:l.length<1000000)(X:Option AObj):a0b L.env false (sem L.env Mf) (.func (.func 127) [] []) [.slice 1 0 l.length (some l.length)] [X,some (.row 2 (l.map W.enc))]=some (.agg (a7g wOr (a1i 0) l).enc,[X,some (.row 2 (l.map W.enc))],[1]):=a4e [1] (by kernel_rfl) (by kernel_rfl) rfl (by simp+decide only[go_sem]) rfl rfl (by intro b hb;simp only[f6f]at hb;subst hb;exact e4n l) (by simp+decide only[go_sem]) (by simp+decide only[go_sem]) (e8m l hl) rfl
theorem d17(l:List W)(hl:l.length<1000000)(X:Option AObj):a0b L.env false (sem L.env Mf) (.func (.func 128) [] []) [.slice 1 0 l.length (some l.length)] [X,some (.row 2 (l.map W.enc))]=some (.agg (a7g d60 (a1i 0) l).enc,[X,some (.row 2 (l.map W.enc))],[1]):=a4e [1] (by kernel_rfl) (by kernel_rfl) rfl (by simp+decide only[go_sem]) rfl rfl (by intro b hb;simp only[f6f]at hb;subst hb;exact e4n l) (by simp+decide only[go_sem]) (by simp+decide only[go_sem]) (e0g l hl) rfl
theorem d5g(l:List W)(hl:l.length<1000000)(X:Option AObj)(Y:Option AObj):a0b L.env false (sem L.env Mf) (.func (.func 126) [] []) [.slice 2 0 l.length (some l.length)] [X,Y,some (.row 2 (l.map W.enc))]=some (.agg (a7g d61 (a1i 1) l).enc,[X,Y,some (.row 2 (l.map W.enc))],[2]):=a4e [2] (by kernel_rfl) (by kernel_rfl) rfl (by simp+decide only[go_sem]) rfl rfl (by intro b hb;simp only[f6f]at hb;subst hb;exact e4n l) (by simp+decide only[go_sem]) (by simp+decide only[go_sem]) (e1s l hl) rfl
theorem d7a(l:List W)(hl:l.length<1000000)(X:Option AObj)(Y:Option AObj):a0b L.env false (sem L.env Mf) (.func (.func 127) [] []) [.slice 2 0 l.length (some l.length)] [X,Y,some (.row 2 (l.map W.enc))]=some (.agg (a7g wOr (a1i 0) l).enc,[X,Y,some (.row 2 (l.map W.enc))],[2]):=a4e [2] (by kernel_rfl) (by kernel_rfl) rfl (by simp+decide only[go_sem]) rfl rfl (by intro b hb;simp only[f6f]at hb;subst hb;exact e4n l) (by simp+decide only[go_sem]) (by simp+decide only[go_sem]) (e8m l hl) rfl
theorem d16(l:List W)(hl:l.length<1000000)(X:Option AObj)(Y:Option AObj):a0b L.env false (sem L.env Mf) (.func (.func 128) [] []) [.slice 2 0 l.length (some l.length)] [X,Y,some (.row 2 (l.map W.enc))]=some (.agg (a7g d60 (a1i 0) l).enc,[X,Y,some (.row 2 (l.map W.enc))],[2]):=a4e [2] (by kernel_rfl) (by kernel_rfl) rfl (by simp+decide only[go_sem]) rfl rfl (by intro b hb;simp only[f6f]at hb;subst hb;exact e4n l) (by simp+decide only[go_sem]) (by simp+decide only[go_sem]) (e0g l hl) rfl
theorem d55(l:List W)(hl:l.length<1000000)(X:Option AObj):a0b L.env false (sem L.env Mf) (.func (.func 123) [] []) [.slice 0 0 l.length (some l.length)] [some (.row 2 (l.map W.enc)),X]=some (.agg (d18 l).enc,[some (.row 2 (l.map W.enc)),X],[0]):=a4e [0] (by kernel_rfl) (by kernel_rfl) rfl (by simp+decide only[go_sem]) rfl rfl (by intro b hb;simp only[f6f]at hb;subst hb;exact e4n l) (by simp+decide only[go_sem]) (by simp+decide only[go_sem]) (e5e l hl) rfl
theorem d8v(c:Rep)(k:Nat)(hk:k<16)(l:List W)(hl:l.length<1000):sem L.env Mf 82 [.int .u8 k,sl c (l.map W.enc)] []=some (.agg (a58 k l).enc,[]):=by
 have hf:=λH=>b0k (d:=false) H k hk;have f0:=λH=>a6r (d:=false) H 0 (by omega) (n:=0) rfl;have f1:=λH=>a6r (d:=false) H 1 (by omega) (n:=1) rfl;have f2:=λH=>a6r (d:=false) H 2 (by omega) (n:=2) rfl;simp only[go_sem]at f0 f1 f2;by_cases aG:l.length<a1e k
 ·have c1:(l.length:Int)<a1e k:=by omega
  rw[show a58 k l=a1i 2 by simp[a58,aG]]
  (refine sv Tryz.f82 ?_;simp only[Tryz.f82,gS])
  (repeat first|simp only[ww]|(apply xa;simp+decide only[go_sem,hf,c1,f2];rfl;kernel_rfl))
  (apply fqb;simp+decide only[go_sem]<;>rfl)
 have c1:¬(l.length:Int)<a1e k:=by omega
 by_cases jS:a1m k<l.length
 ·have c2:(a1m k:Int)<l.length:=by omega
  rw[show a58 k l=a1i 2 by simp[a58,jS]]
  (refine sv Tryz.f82 ?_;simp only[Tryz.f82,gS])
  (repeat first|simp only[ww]|(apply xa;simp+decide only[go_sem,hf,c1,c2,f2];rfl;kernel_rfl))
  (apply fqb;simp+decide only[go_sem]<;>rfl)
 have c2:¬(a1m k:Int)<l.length:=by omega
 have hb:¬(l.length<a1e k∨a1m k<l.length):=by omega
 by_cases h13:k=13
 ·subst h13;rw[show a58 13 l=d18 l by simp[a58,hb]];have j2:=λH=>d9p (d:=false) H c l (by omega);simp only[go_sem]at j2
  (refine sv Tryz.f82 ?_;simp only[Tryz.f82,gS])
  (repeat first|simp only[ww]|(apply xa;simp+decide only[go_sem,hf,c1,c2,j2];rfl;kernel_rfl))
  (apply fqb;simp+decide only[go_sem]<;>rfl)
 have rY:¬(k:Int)=13:=by omega
 have aE:l.length≤1000000000:=by omega
 (refine sv Tryz.f82 ?_;simp only[Tryz.f82,gS])
 (repeat first|simp only[ww]|(apply xa;simp+decide only[go_sem,hf,c1,c2,rY,aE];rfl;kernel_rfl))
 refine a29 (σ:=Nat) kp82_0 (λi=>[(0,.int .u8 k),(4,.ptr 0 0 0),(7,.slice 1 0 l.length (some l.length)),(33,sl c (l.map W.enc)),(34,.int .i64 l.length),(35,.int .i64 i)])
  (λi=>[some (.row 2 [[u64 (BitVec.ofInt 64 0),u64 (BitVec.ofInt 64 0)]]),some (.row 2 ((rdW l i).map W.enc))]) (λi=>l.length-i) (λi=>i≤l.length) 0 ?_ (f4m _) ?_ ?_
 ·(simp+decide only[go_sem,a02,a00,c78,zW]<;>rfl)
 ·intro i _
  (simp+decide only[go_sem,a02,a00]<;>rfl)
 ·intro i hi;by_cases ah:i<l.length
  ·obtain⟨x,hx⟩:∃x,l[i]?=some x:=⟨_,z9e ah⟩
   have c1:(i:Int)<l.length:=by omega
   have hw:=wI1 (n:=i) (by omega);have hs:=c79 hx;have hg:=d26 ah;have dp:=λH=>c2n (d:=false) H x;simp only[go_sem]at dp
   (repeat first|simp only[ww]|(apply xa;simp+decide only[go_sem,c1,ah,hx,hw,hg,dp,zW,hs];rfl;kernel_rfl))
   refine a21 (i+1) ?_ (by omega) (by omega)
   (simp+decide only[go_sem,a02,a00]<;>rfl)
  have cY:i=l.length:=by omega
  subst cY;have c3:¬(l.length:Int)<l.length:=by omega
  rw[d27];have dM:(l.map a69).length=l.length:=f4j ..;have ai:(l.map a69).length<1000000:=by omega
  have ha:=λX=>d5h (l.map a69) ai X;have ho:=λX=>d7b (l.map a69) ai X;have hx:=λX=>d17 (l.map a69) ai X;have iw:=λH w=>c7d (d:=false) H w;have lx:=λH a b c=>c7g (d:=true) H a b c;have eV:=λH a b=>c6z (d:=true) H a b;rw[dM]at ha ho hx;have nQ:a58 k l=a2a k (l.map a69):=by unfold a58;rw[f4n hb,f4n h13]
  rw[nQ];generalize l.map a69=r at dM ai ha ho hx;simp only[go_sem]at ha ho hx iw lx eV;have aI:∀i,i<l.length→r[i]?=some (r.getD i zW):=λi hi=>by rw[List.getD,z9e (by omega)];rfl
  have kI:k=0∨k=1∨k=2∨k=3∨k=4∨k=5∨k=6∨k=7∨k=8∨k=9∨k=10∨k=11∨k=12∨k=14∨k=15:=by omega
  rcases kI with rfl|rfl|rfl|rfl|rfl|rfl|rfl|rfl|rfl|rfl|rfl|rfl|rfl|rfl|rfl
  ·have bE:0≤l.length:=f6o aG
   (repeat first|simp only[ww]|(apply xa;simp+decide only[go_sem,c3,f2];rfl;kernel_rfl))
   (apply fqb;simp+decide only[go_sem,a2a]<;>rfl)
  ·have bE:0≤l.length:=f6o aG
   (repeat first|simp only[ww]|(apply xa;simp+decide only[go_sem,c3,f0];rfl;kernel_rfl))
   (apply fqb;simp+decide only[go_sem,a2a]<;>rfl)
  ·have bE:0≤l.length:=f6o aG
   (repeat first|simp only[ww]|(apply xa;simp+decide only[go_sem,c3,f1];rfl;kernel_rfl))
   (apply fqb;simp+decide only[go_sem,a2a]<;>rfl)
  ·have bE:1≤l.length:=f6o aG;have g0:=aI 0 (by omega);have p0:0<l.length:=by omega
   (repeat first|simp only[ww]|(apply xa;simp+decide only[go_sem,c3,g0,p0];rfl;kernel_rfl))
   (apply fqb;simp+decide only[go_sem,a2a]<;>rfl)
  ·have bE:1≤l.length:=f6o aG;have g0:=aI 0 (by omega);have p0:0<l.length:=by omega
   (repeat first|simp only[ww]|(apply xa;simp+decide only[go_sem,c3,iw,g0,p0];rfl;kernel_rfl))
   (apply fqb;simp+decide only[go_sem,a2a]<;>rfl)
  ·have bE:2≤l.length:=f6o aG
   (repeat first|simp only[ww]|(apply xa;simp+decide only[go_sem,c3,ha];rfl;kernel_rfl))
   (apply fqb;simp+decide only[go_sem,a2a]<;>rfl)
  ·have bE:2≤l.length:=f6o aG
   (repeat first|simp only[ww]|(apply xa;simp+decide only[go_sem,c3,ha,iw];rfl;kernel_rfl))
   (apply fqb;simp+decide only[go_sem,a2a]<;>rfl)
  ·have bE:2≤l.length:=f6o aG
   (repeat first|simp only[ww]|(apply xa;simp+decide only[go_sem,c3,ho];rfl;kernel_rfl))
   (apply fqb;simp+decide only[go_sem,a2a]<;>rfl)
  ·have bE:2≤l.length:=f6o aG
   (repeat first|simp only[ww]|(apply xa;simp+decide only[go_sem,c3,ho,iw];rfl;kernel_rfl))
   (apply fqb;simp+decide only[go_sem,a2a]<;>rfl)
  ·have bE:2≤l.length:=f6o aG
   (repeat first|simp only[ww]|(apply xa;simp+decide only[go_sem,c3,hx];rfl;kernel_rfl))
   (apply fqb;simp+decide only[go_sem,a2a]<;>rfl)
  ·have bE:2≤l.length:=f6o aG
   (repeat first|simp only[ww]|(apply xa;simp+decide only[go_sem,c3,hx,iw];rfl;kernel_rfl))
   (apply fqb;simp+decide only[go_sem,a2a]<;>rfl)
  ·have bE:3≤l.length:=f6o aG;have g0:=aI 0 (by omega);have p0:0<l.length:=by omega
   have g1:=aI 1 (by omega);have p1:1<l.length:=by omega
   have g2:=aI 2 (by omega);have p2:2<l.length:=by omega
   (repeat first|simp only[ww]|(apply xa;simp+decide only[go_sem,c3,lx,g0,p0,g1,p1,g2,p2];rfl;kernel_rfl))
   (apply fqb;simp+decide only[go_sem,a2a]<;>rfl)
  ·have bE:2≤l.length:=f6o aG;have g0:=aI 0 (by omega);have p0:0<l.length:=by omega
   have g1:=aI 1 (by omega);have p1:1<l.length:=by omega
   (repeat first|simp only[ww]|(apply xa;simp+decide only[go_sem,c3,eV,g0,p0,g1,p1];rfl;kernel_rfl))
   (apply fqb;simp+decide only[go_sem,a2a]<;>rfl)
  ·have bE:1≤l.length:=f6o aG
   (repeat first|simp only[ww]|(apply xa;simp+decide only[go_sem,c3,f2];rfl;kernel_rfl))
   (apply fqb;simp+decide only[go_sem,a2a]<;>rfl)
  ·have bE:0≤l.length:=f6o aG
   (repeat first|simp only[ww]|(apply xa;simp+decide only[go_sem,c3,f2];rfl;kernel_rfl))
   (apply fqb;simp+decide only[go_sem,a2a]<;>rfl)
theorem d8u(k:Nat)(hk:k<16)(l:List W)(hl:l.length<1000):sem L.env Mf 82 [.int .u8 k,.slice 0 0 l.length (some l.length)] [some (.row 2 (l.map W.enc))]=some (.agg (a58 k l).enc,[some (.row 2 (l.map W.enc))]):=by
 have hf:=λH=>b0k (d:=false) H k hk;have f0:=λH=>a6r (d:=false) H 0 (by omega) (n:=0) rfl;have f1:=λH=>a6r (d:=false) H 1 (by omega) (n:=1) rfl;have f2:=λH=>a6r (d:=false) H 2 (by omega) (n:=2) rfl;simp only[go_sem]at f0 f1 f2;by_cases aG:l.length<a1e k
 ·have c1:(l.length:Int)<a1e k:=by omega
  rw[show a58 k l=a1i 2 by simp[a58,aG]]
  (refine sv Tryz.f82 ?_;simp only[Tryz.f82,gS])
  (repeat first|simp only[ww]|(apply xa;simp+decide only[go_sem,hf,c1,f2];rfl;kernel_rfl))
  (apply fqb;simp+decide only[go_sem]<;>rfl)
 have c1:¬(l.length:Int)<a1e k:=by omega
 by_cases jS:a1m k<l.length
 ·have c2:(a1m k:Int)<l.length:=by omega
  rw[show a58 k l=a1i 2 by simp[a58,jS]]
  (refine sv Tryz.f82 ?_;simp only[Tryz.f82,gS])
  (repeat first|simp only[ww]|(apply xa;simp+decide only[go_sem,hf,c1,c2,f2];rfl;kernel_rfl))
  (apply fqb;simp+decide only[go_sem]<;>rfl)
 have c2:¬(a1m k:Int)<l.length:=by omega
 have hb:¬(l.length<a1e k∨a1m k<l.length):=by omega
 by_cases h13:k=13
 ·subst h13;rw[show a58 13 l=d18 l by simp[a58,hb]];have j2:=λX=>d55 l (by omega) X;simp only[go_sem]at j2
  (refine sv Tryz.f82 ?_;simp only[Tryz.f82,gS])
  (repeat first|simp only[ww]|(apply xa;simp+decide only[go_sem,hf,c1,c2,j2];rfl;kernel_rfl))
  (apply fqb;simp+decide only[go_sem]<;>rfl)
 have rY:¬(k:Int)=13:=by omega
 have aE:l.length≤1000000000:=by omega
 (refine sv Tryz.f82 ?_;simp only[Tryz.f82,gS])
 (repeat first|simp only[ww]|(apply xa;simp+decide only[go_sem,hf,c1,c2,rY,aE];rfl;kernel_rfl))
 refine a29 (σ:=Nat) kp82_0 (λi=>[(0,.int .u8 k),(4,.ptr 1 0 0),(7,.slice 2 0 l.length (some l.length)),(33,.slice 0 0 l.length (some l.length)),(34,.int .i64 l.length),(35,.int .i64 i)])
  (λi=>[some (.row 2 (l.map W.enc)),some (.row 2 [[u64 (BitVec.ofInt 64 0),u64 (BitVec.ofInt 64 0)]]),some (.row 2 ((rdW l i).map W.enc))]) (λi=>l.length-i) (λi=>i≤l.length) 0 ?_ (f4m _) ?_ ?_
 ·(simp+decide only[go_sem,a02,a00,c78,zW]<;>rfl)
 ·intro i _
  (simp+decide only[go_sem,a02,a00]<;>rfl)
 ·intro i hi;by_cases ah:i<l.length
  ·obtain⟨x,hx⟩:∃x,l[i]?=some x:=⟨_,z9e ah⟩
   have c1:(i:Int)<l.length:=by omega
   have hw:=wI1 (n:=i) (by omega);have hs:=c79 hx;have hg:=d26 ah;have dp:=λH=>c2n (d:=false) H x;simp only[go_sem]at dp
   (repeat first|simp only[ww]|(apply xa;simp+decide only[go_sem,c1,ah,hx,hw,hg,dp,zW,hs];rfl;kernel_rfl))
   refine a21 (i+1) ?_ (by omega) (by omega)
   (simp+decide only[go_sem,a02,a00]<;>rfl)
  have cY:i=l.length:=by omega
  subst cY;have c3:¬(l.length:Int)<l.length:=by omega
  rw[d27];have dM:(l.map a69).length=l.length:=f4j ..;have ai:(l.map a69).length<1000000:=by omega
  have ha:=λX Y=>d5g (l.map a69) ai X Y;have ho:=λX Y=>d7a (l.map a69) ai X Y;have hx:=λX Y=>d16 (l.map a69) ai X Y;have iw:=λH w=>c7d (d:=false) H w;have lx:=λH a b c=>c7g (d:=true) H a b c;have eV:=λH a b=>c6z (d:=true) H a b;rw[dM]at ha ho hx;have nQ:a58 k l=a2a k (l.map a69):=by unfold a58;rw[f4n hb,f4n h13]
  rw[nQ];generalize l.map a69=r at dM ai ha ho hx;simp only[go_sem]at ha ho hx iw lx eV;have aI:∀i,i<l.length→r[i]?=some (r.getD i zW):=λi hi=>by rw[List.getD,z9e (by omega)];rfl
  have kI:k=0∨k=1∨k=2∨k=3∨k=4∨k=5∨k=6∨k=7∨k=8∨k=9∨k=10∨k=11∨k=12∨k=14∨k=15:=by omega
  rcases kI with rfl|rfl|rfl|rfl|rfl|rfl|rfl|rfl|rfl|rfl|rfl|rfl|rfl|rfl|rfl
  ·have bE:0≤l.length:=f6o aG
   (repeat first|simp only[ww]|(apply xa;simp+decide only[go_sem,c3,f2];rfl;kernel_rfl))
   (apply fqb;simp+decide only[go_sem,a2a]<;>rfl)
  ·have bE:0≤l.length:=f6o aG
   (repeat first|simp only[ww]|(apply xa;simp+decide only[go_sem,c3,f0];rfl;kernel_rfl))
   (apply fqb;simp+decide only[go_sem,a2a]<;>rfl)
  ·have bE:0≤l.length:=f6o aG
   (repeat first|simp only[ww]|(apply xa;simp+decide only[go_sem,c3,f1];rfl;kernel_rfl))
   (apply fqb;simp+decide only[go_sem,a2a]<;>rfl)
  ·have bE:1≤l.length:=f6o aG;have g0:=aI 0 (by omega);have p0:0<l.length:=by omega
   (repeat first|simp only[ww]|(apply xa;simp+decide only[go_sem,c3,g0,p0];rfl;kernel_rfl))
   (apply fqb;simp+decide only[go_sem,a2a]<;>rfl)
  ·have bE:1≤l.length:=f6o aG;have g0:=aI 0 (by omega);have p0:0<l.length:=by omega
   (repeat first|simp only[ww]|(apply xa;simp+decide only[go_sem,c3,iw,g0,p0];rfl;kernel_rfl))
   (apply fqb;simp+decide only[go_sem,a2a]<;>rfl)
  ·have bE:2≤l.length:=f6o aG
   (repeat first|simp only[ww]|(apply xa;simp+decide only[go_sem,c3,ha];rfl;kernel_rfl))
   (apply fqb;simp+decide only[go_sem,a2a]<;>rfl)
  ·have bE:2≤l.length:=f6o aG
   (repeat first|simp only[ww]|(apply xa;simp+decide only[go_sem,c3,ha,iw];rfl;kernel_rfl))
   (apply fqb;simp+decide only[go_sem,a2a]<;>rfl)
  ·have bE:2≤l.length:=f6o aG
   (repeat first|simp only[ww]|(apply xa;simp+decide only[go_sem,c3,ho];rfl;kernel_rfl))
   (apply fqb;simp+decide only[go_sem,a2a]<;>rfl)
  ·have bE:2≤l.length:=f6o aG
   (repeat first|simp only[ww]|(apply xa;simp+decide only[go_sem,c3,ho,iw];rfl;kernel_rfl))
   (apply fqb;simp+decide only[go_sem,a2a]<;>rfl)
  ·have bE:2≤l.length:=f6o aG
   (repeat first|simp only[ww]|(apply xa;simp+decide only[go_sem,c3,hx];rfl;kernel_rfl))
   (apply fqb;simp+decide only[go_sem,a2a]<;>rfl)
  ·have bE:2≤l.length:=f6o aG
   (repeat first|simp only[ww]|(apply xa;simp+decide only[go_sem,c3,hx,iw];rfl;kernel_rfl))
   (apply fqb;simp+decide only[go_sem,a2a]<;>rfl)
  ·have bE:3≤l.length:=f6o aG;have g0:=aI 0 (by omega);have p0:0<l.length:=by omega
   have g1:=aI 1 (by omega);have p1:1<l.length:=by omega
   have g2:=aI 2 (by omega);have p2:2<l.length:=by omega
   (repeat first|simp only[ww]|(apply xa;simp+decide only[go_sem,c3,lx,g0,p0,g1,p1,g2,p2];rfl;kernel_rfl))
   (apply fqb;simp+decide only[go_sem,a2a]<;>rfl)
  ·have bE:2≤l.length:=f6o aG;have g0:=aI 0 (by omega);have p0:0<l.length:=by omega
   have g1:=aI 1 (by omega);have p1:1<l.length:=by omega
   (repeat first|simp only[ww]|(apply xa;simp+decide only[go_sem,c3,eV,g0,p0,g1,p1];rfl;kernel_rfl))
   (apply fqb;simp+decide only[go_sem,a2a]<;>rfl)
  ·have bE:1≤l.length:=f6o aG
   (repeat first|simp only[ww]|(apply xa;simp+decide only[go_sem,c3,f2];rfl;kernel_rfl))
   (apply fqb;simp+decide only[go_sem,a2a]<;>rfl)
  ·have bE:0≤l.length:=f6o aG
   (repeat first|simp only[ww]|(apply xa;simp+decide only[go_sem,c3,f2];rfl;kernel_rfl))
   (apply fqb;simp+decide only[go_sem,a2a]<;>rfl)
theorem d74(w:W)(n v:Nat)(hn:n<64)(hv:v<256):sem L.env Mf 87 [.agg w.enc,.int .i64 n,.int .u8 v] []=some (.agg (a81 w n v).enc,[]):=by
 have hc:=λH=>b6y (d:=false) H v hv;simp only[go_sem]at hc;have h0:¬(n:Int)<0:=by omega
 (refine sv Tryz.f87 ?_;simp only[Tryz.f87,gS])
 (repeat first|simp only[ww]|(apply xa;simp+decide only[go_sem,hc,h0];rfl;kernel_rfl))
 (apply fqb;simp+decide only[go_sem,a81,e5i]<;>rfl)
theorem b8n{d:Bool}(H:a03)(w:W)(n v:Nat)(hn:n<64)(hv:v<256):a0b L.env d (sem L.env Mf) (.func (.func 87) [] []) [.agg w.enc,.int .i64 n,.int .u8 v] H=some (.agg (a81 w n v).enc,H,[]):=a04 (by kernel_rfl) (by kernel_rfl) rfl rfl (d74 w n v hn hv) rfl
theorem e5a(k:Nat)(hk:k<256):sem L.env Mf 24 [.int .u8 k] []=some (.bool (a1o k),[]):=by
 by_cases h1:1≤k
 ·have c1:(1:Int)≤k:=by omega
  by_cases h2:k≤13
  ·have c2:(k:Int)≤13:=by omega
   rw[show a1o k=true by simp[a1o,h1,h2]]
   (refine sv Tryz.f24 ?_;simp only[Tryz.f24,gS])
   (repeat first|simp only[ww]|(apply xa;simp+decide only[go_sem,c1,c2];rfl;kernel_rfl))
   (apply fqb;simp+decide only[go_sem]<;>rfl)
  ·have c2:¬(k:Int)≤13:=by omega
   rw[show a1o k=false by simp[a1o,h2]]
   (refine sv Tryz.f24 ?_;simp only[Tryz.f24,gS])
   (repeat first|simp only[ww]|(apply xa;simp+decide only[go_sem,c1,c2];rfl;kernel_rfl))
   (apply fqb;simp+decide only[go_sem]<;>rfl)
 ·have c1:¬(1:Int)≤k:=by omega
  rw[show a1o k=false by simp[a1o,h1]]
  (refine sv Tryz.f24 ?_;simp only[Tryz.f24,gS])
  (repeat first|simp only[ww]|(apply xa;simp+decide only[go_sem,c1];rfl;kernel_rfl))
  (apply fqb;simp+decide only[go_sem]<;>rfl)
theorem eqW(a b x y:BitVec 64)(c:Bool):a6n L.env .eql 155 (.agg [u64 a,u64 b]) (.agg [u64 x,u64 y]) c=some (.bool (decide (a=x)&&decide (b=y))):=by
 have h:a6n L.env .eql 155 (.agg [u64 a,u64 b]) (.agg [u64 x,u64 y]) c=some (.bool (((a.toNat:Int)==(x.toNat:Int))&&(((b.toNat:Int)==(y.toNat:Int))&&true))):=by kernel_rfl
 rw[h]
 congr 2
 have e:∀p q:BitVec 64,((p.toNat:Int)==(q.toNat:Int))=decide (p=q):=by intro p q;rw[f9r,g0i,f4p];exact⟨λh=>BitVec.eq_of_toNat_eq (by omega),λh=>by rw[h]⟩
 rw[e,e,Bool.and_true]
def atW(w:W)(j:Nat):Nat:=match w.one.getLsbD j,w.zero.getLsbD j with
 |false,true=>0
 |true,false=>1
 |false,false=>2
 |true,true=>3
theorem b9q(w:BitVec 64)(j:Nat):w>>>j&&&BitVec.ofInt 64 1=if w.getLsbD j then 1#64 else 0#64:=by
 have h:=c8g w j;have e:BitVec.ofInt 64 1=1#64:=by decide
 rw[e]at h⊢;split
 ·rename_i hb;rw[hb]at h;exact of_decide_eq_true h
 ·rename_i hb;have hb:w.getLsbD j=false:=by simpa using hb
  apply BitVec.eq_of_getLsbD_eq;intro i hi;cases i with
  |zero=>simp[hb]
  |succ i=>simp[BitVec.getLsbD_one]
theorem f06(w:W)(j:Nat)(hj:j<64):sem L.env Mf 86 [.agg w.enc,.int .i64 j] []=some (.int .u8 (atW w j:Nat),[]):=by
 have c0:¬(j:Int)<0:=by omega
 have c1:¬(64:Int)≤j:=by omega
 have ho:=b9q w.one j;have hz:=b9q w.zero j;have e0:BitVec.ofInt 64 0=0#64:=by decide
 have e1:BitVec.ofInt 64 1=1#64:=by decide
 unfold atW
 (refine sv Tryz.f86 ?_;simp only[Tryz.f86,gS])
 (repeat first|simp only[ww]|(apply xa;simp+decide only[go_sem,c0,c1,ho,hz];rfl;kernel_rfl))
 generalize w.one.getLsbD j=a;generalize w.zero.getLsbD j=b;refine a0q (σ:=Nat) kp86_0 (λi=>[(5,.ptr 0 0 0),(24,.int .u8 i)])
  (λ_=>[some (.row 2 [[u64 (if a then 1#64 else 0#64),u64 (if b then 1#64 else 0#64)]])]) (λi=>3-i) (λi=>i≤3∧(a=false∧b=true→i=0)∧(a=true∧b=false→i≤1)∧(a=false∧b=false→i≤2)) 0 ?_ (by simp) ?_
 ·(simp+decide only[go_sem,a02,a00]<;>rfl)
 ·rintro i ⟨hi,h0,h1,h2⟩
  have hh:i=0∨i=1∨i=2∨i=3:=by omega
  cases a<;>cases b<;>rcases hh with rfl|rfl|rfl|rfl<;>first|(exfalso;simp at h0 h1 h2;done)|skip
  all_goals first
   |((repeat first|simp only[ww]|(apply xa;simp+decide only[go_sem,eqW,e0,e1];rfl;kernel_rfl));(apply fqb;simp+decide only[go_sem]<;>rfl);done)
   |((repeat first|simp only[ww]|(apply xa;simp+decide only[go_sem,eqW,e0,e1];rfl;kernel_rfl));refine a21 1 ?_ (by omega) (by simp);(simp+decide only[go_sem,a02,a00]<;>rfl);done)
   |((repeat first|simp only[ww]|(apply xa;simp+decide only[go_sem,eqW,e0,e1];rfl;kernel_rfl));refine a21 2 ?_ (by omega) (by simp);(simp+decide only[go_sem,a02,a00]<;>rfl);done)
   |((repeat first|simp only[ww]|(apply xa;simp+decide only[go_sem,eqW,e0,e1];rfl;kernel_rfl));refine a21 3 ?_ (by omega) (by simp);(simp+decide only[go_sem,a02,a00]<;>rfl);done)
theorem e47(k v:Nat):sem L.env Mf 139 [.slice 0 0 1 (some 1),.int .u8 v] [some (.row 1 [[.int .u8 k]])]=some (.int .i64 (if v=k then 0 else -1),[some (.row 1 [[.int .u8 k]])]):=by
 (refine sv Tryz.f139 ?_;simp only[Tryz.f139,gS])
 (repeat first|simp only[ww]|(apply xa;simp+decide only[go_sem];rfl;kernel_rfl))
 refine a0q (σ:=Nat) kp139_0 (λi=>[(0,.slice 0 0 1 (some 1)),(1,.int .u8 v),(7,.int .i64 1),(8,.int .i64 i)])
  (λ_=>[some (.row 1 [[.int .u8 k]])]) (λi=>1-i) (λi=>i≤1∧(i=1→v≠k)) 0 ?_ (by simp) ?_
 ·(simp+decide only[go_sem,a02,a00]<;>rfl)
 ·rintro i ⟨hi,aF⟩
  have hh:i=0∨i=1:=by omega
  rcases hh with rfl|rfl
  ·by_cases h:v=k
   ·subst h
    (repeat first|simp only[ww]|(apply xa;simp+decide only[go_sem,f6e];rfl;kernel_rfl))
    (apply fqb;simp+decide only[go_sem,f6e]<;>rfl)
   ·have c:¬(v:Int)=k:=by omega
    (repeat first|simp only[ww]|(apply xa;simp+decide only[go_sem,c];rfl;kernel_rfl))
    refine a21 1 ?_ (by omega) (by simp[h])
    (simp+decide only[go_sem,a02,a00]<;>rfl)
  ·have h:=aF rfl;have c:¬(v:Int)=k:=by omega
   rw[f4n h]
   (repeat first|simp only[ww]|(apply xa;simp+decide only[go_sem,c];rfl;kernel_rfl))
   (apply fqb;simp+decide only[go_sem]<;>rfl)
theorem d9c(k v:Nat):sem L.env Mf 97 [.slice 0 0 1 (some 1),.int .u8 v] [some (.row 1 [[.int .u8 k]])]=some (.bool (decide (v=k)),[some (.row 1 [[.int .u8 k]])]):=by
 have hc:a0b L.env false (sem L.env Mf) (.func (.func 139) [] []) [.slice 0 0 1 (some 1),.int .u8 v] [some (.row 1 [[.int .u8 k]])]=some (.int .i64 (if v=k then 0 else -1),[some (.row 1 [[.int .u8 k]])],[0]):=a2e (by kernel_rfl) (by kernel_rfl) rfl rfl rfl (FlatO.row (FlatR.cons rfl FlatR.nil)) rfl rfl (e47 k v) rfl;by_cases h:v=k
 ·rw[f6e h]at hc
  (refine sv Tryz.f97 ?_;simp only[Tryz.f97,gS])
  (repeat first|simp only[ww]|(apply xa;simp+decide only[go_sem,hc];rfl;kernel_rfl))
  (apply fqb;simp+decide only[go_sem,h]<;>rfl)
 ·rw[f4n h]at hc
  (refine sv Tryz.f97 ?_;simp only[Tryz.f97,gS])
  (repeat first|simp only[ww]|(apply xa;simp+decide only[go_sem,hc];rfl;kernel_rfl))
  (apply fqb;simp+decide only[go_sem,h]<;>rfl)
theorem d0c{d:Bool}(k v:Nat)(X:a03):a0b L.env d (sem L.env Mf) (.func (.func 97) [] []) [.slice 0 0 1 (some 1),.int .u8 v] (some (.row 1 [[.int .u8 k]])::X)=some (.bool (decide (v=k)),some (.row 1 [[.int .u8 k]])::X,[0]):=a2e (by kernel_rfl) (by kernel_rfl) rfl rfl rfl (FlatO.row (FlatR.cons rfl FlatR.nil)) rfl rfl (d9c k v) rfl
def a40(nodes:List Nd)(k i:Nat):List Nat:=(List.range i).filter λj=>decide (a0e nodes j=k)
theorem b15(nodes:List Nd)(k i:Nat):a40 nodes k (i+1)=if a0e nodes i=k then a40 nodes k i++[i]else a40 nodes k i:=by unfold a40;rw[f9k,List.filter_append];by_cases h:a0e nodes i=k<;>simp[h]
theorem b1z(nodes:List Nd)(k i:Nat):(a40 nodes k i).length≤i:=g1v (f9x _ _) (by simp)
def kinds(nodes:List Nd)(k:Nat):List Nat:=a40 nodes k nodes.length
def b7t(l:List Nat):AV:=sl (match l with|[]=>none|a::r=>some (some (r.length+1))) (l.map a0a)
theorem c7n:b7t [] = .nilslice:=by rfl
theorem c3m(a:Nat)(r:List Nat):b7t (a::r) = .islice ((a::r).map a0a) (some (r.length+1)):=by rfl
theorem a0y{nodes:List Nd}{i:Nat}{x:Nd}(h:nodes[i]?=some x):a0e nodes i=x.kind:=by simp[a0e,h]
theorem a2d(l:List Nat):(l.map a0a).flatMap a0l=[]:=a0f (FlatR.map λ_=>rfl)
theorem a3l(π:Nat→Option Nat)(l:List Nat):(l.map a0a).map (λr=>r.map (ren π))=l.map a0a:=a0c π (FlatR.map λ_=>rfl)
theorem c83(l:List Nat):FlatR (l.map a0a):=FlatR.map λ_=>rfl
theorem d8q{m:Nat}{d:AV→Option AV}(l:List Nat):a9g m d (l.map a0a)=some (l.map a0a):=a12 m d (FlatR.map λ_=>rfl)
theorem c1q:sem L.env Mf 69 [.nilslice] []=some (.nilslice,[]):=by
 (refine sv Tryz.f69 ?_;simp only[Tryz.f69,gS])
 (repeat first|simp only[ww]|(apply xa;simp+decide only[go_sem];rfl;kernel_rfl))
 (apply fqb;simp+decide only[go_sem]<;>rfl)
theorem e5b(n:Nat)(aa:List (List AV))(hf:FlatR aa):sem L.env Mf 69 [.slice 0 0 n none] [some (.row 1 aa)]=some (.slice 0 0 n (some n),[some (.row 1 aa)]):=by
 have h1:=λπ=>a0c π hf
 (refine sv Tryz.f69 ?_;simp only[Tryz.f69,gS])
 (repeat first|simp only[ww]|(apply xa;simp+decide only[go_sem];rfl;kernel_rfl))
 (apply fqb;simp+decide only[go_sem,h1]<;>rfl)
theorem c49{d:Bool}{H:a03}{b n:Nat}{aa:List (List AV)}(hf:FlatR aa)(hb:a01 H b=some (.row 1 aa)):a0b L.env d (sem L.env Mf) (.func (.func 69) [] []) [.slice b 0 n none] H=some (.slice b 0 n (some n),H,[b]):=by have h:=a60 (E:=L.env) (ag:=d) (call:=sem L.env Mf) (g:=69) (fs:=[]) (cs:=[]) (ar:=[.slice b 0 n none]) (H:=H) (b:=b) (by kernel_rfl) (by kernel_rfl) rfl hb (a0r hf) (FlatO.row hf) rfl (au:=[AV.slice 0 0 n none]) (by simp only[e14,f4g,c10,f4h,a20]) (e5b n aa hf) (FlatO.row hf) (b1d b 0 _ n _);rw[a8k hb]at h;exact h
theorem e8u(c:Cir)(k:Nat)(hl:c.nodes.length<1000000):sem L.env Mf 52 [.agg c.enc,.slice 0 0 1 (some 1)] [some (.row 1 [[.int .u8 k]])]=some (b7t (kinds c.nodes k),[some (.row 1 [[.int .u8 k]])]):=by
 have bZ:=λv X=>d0c (d:=false) k v X
 (refine sv Tryz.f52 ?_;simp only[Tryz.f52,gS])
 (repeat first|simp only[ww]|(apply xa;simp+decide only[go_sem,Cir.enc];rfl;kernel_rfl))
 refine a0q (σ:=Nat) kp52_0 (λi=>[(1,.slice 0 0 1 (some 1)),(5,grV 1 ((a40 c.nodes k i).map a0a)),(9,sl c.nc (c.nodes.map Nd.enc)),(10,.int .i64 c.nodes.length),(11,.int .i64 i)])
  (λi=>some (.row 1 [[.int .u8 k]])::grH 1 ((a40 c.nodes k i).map a0a)) (λi=>c.nodes.length-i) (λi=>i≤c.nodes.length) 0 ?_ (f4m _) ?_
 ·have e:a40 c.nodes k 0=[]:=rfl
  (simp+decide only[go_sem,a02,a00,e,f4h,a0g,a0h]<;>rfl)
 ·intro i hi;by_cases ah:i<c.nodes.length
  ·obtain⟨x,hx⟩:∃x,c.nodes[i]?=some x:=⟨_,z9e ah⟩
   have c1:(i:Int)<c.nodes.length:=by omega
   have hw:=wI1 (n:=i) (by omega);have hs:=b15 c.nodes k i;rw[a0y hx]at hs;have bC:=b1z c.nodes k i;have aE:(a40 c.nodes k i).length+1≤1000000000:=by omega
   by_cases hk:x.kind=k
   ·rw[f6e hk]at hs;generalize a40 c.nodes k i=l at hs bC aE;cases l with
    |nil=>
     (repeat first|simp only[ww]|(apply xa;simp+decide only[go_sem,c1,ah,hx,hw,bZ,hk,f4h,a0g,a0h];rfl;kernel_rfl))
     refine a21 (i+1) ?_ (by omega) (by omega);rw[hs]
     (simp+decide only[go_sem,a02,a00,f4h,e14,c10,a05,a06,f4o]<;>rfl)
    |cons a r=>
     simp only[e12]at aE
     (repeat first|simp only[ww]|(apply xa;simp+decide only[go_sem,c1,ah,hx,hw,bZ,hk,c10,a05,a06,aE,e12];rfl;kernel_rfl))
     refine a21 (i+1) ?_ (by omega) (by omega);rw[hs]
     (simp+decide only[go_sem,a02,a00,f6a,c10,a05,a06,a2d,a3l,e12]<;>rfl)
   ·rw[f4n hk]at hs;have dE:¬(x.kind:Int)=k:=by omega
    generalize a40 c.nodes k i=l at hs bC aE;cases l with
    |nil=>
     (repeat first|simp only[ww]|(apply xa;simp+decide only[go_sem,c1,ah,hx,hw,bZ,hk,f4h,a0g,a0h];rfl;kernel_rfl))
     refine a21 (i+1) ?_ (by omega) (by omega);rw[hs]
     (simp+decide only[go_sem,a02,a00,f4h,a0g,a0h]<;>rfl)
    |cons a r=>
     (repeat first|simp only[ww]|(apply xa;simp+decide only[go_sem,c1,ah,hx,hw,bZ,hk,c10,a05,a06];rfl;kernel_rfl))
     refine a21 (i+1) ?_ (by omega) (by omega);rw[hs]
     (simp+decide only[go_sem,a02,a00,c10,a05,a06,a2d,a3l]<;>rfl)
  ·obtain rfl:i=c.nodes.length:=by omega
   have c1:¬(c.nodes.length:Int)<c.nodes.length:=by omega
   unfold kinds;generalize a40 c.nodes k c.nodes.length=l;cases l with
   |nil=>
    have cD:=λH=>a04 (E:=L.env) (ag:=false) (call:=sem L.env Mf) (g:=69) (fs:=[]) (cs:=[]) (ar:=[.nilslice]) (H:=H) (by kernel_rfl) (by kernel_rfl) rfl rfl c1q rfl
    (repeat first|simp only[ww]|(apply xa;simp+decide only[go_sem,c1,f4h,a0g,a0h,cD];rfl;kernel_rfl))
    (apply fqb;simp+decide only[go_sem,c7n]<;>rfl)
   |cons a r=>
    have cD:=c49 (d:=false) (H:=[some (.row 1 [[.int .u8 k]]),some (.row 1 ((a::r).map a0a))]) (b:=1) (n:=r.length+1) (c83 _) rfl;simp only[c10,go_sem]at cD
    (repeat first|simp only[ww]|(apply xa;simp+decide only[go_sem,c1,c10,a05,a06,f4j,cD];rfl;kernel_rfl))
    (apply fqb;simp+decide only[go_sem,c3m,c10,d8q,e12]<;>rfl)
theorem c5g(π:Nat→Option Nat)(c:Cir):ren π (.agg c.enc) = .agg c.enc:=a14 π _ (by simp only[a11,Cir.enc,go_sem])
theorem a6e(l:List Nat):refs (b7t l)=[]:=a2w _ _
theorem c0r{d:Bool}{H:a03}{b:Nat}(c:Cir){k:Nat}{n:Int}(hn:n=k)(hl:c.nodes.length<1000000)(hb:a01 H b=some (.row 1 [[.int .u8 n]])) :
 a0b L.env d (sem L.env Mf) (.func (.func 52) [] []) [.agg c.enc,.slice b 0 1 (some 1)] H=some (b7t (kinds c.nodes k),H,[b]):=by
 subst hn;exact a2e (E:=L.env) (ag:=d) (call:=sem L.env Mf) (g:=52) (fs:=[]) (cs:=[]) (ar:=[.agg c.enc,.slice b 0 1 (some 1)]) (H:=H) (b:=b) (by kernel_rfl) (by kernel_rfl) rfl hb rfl (FlatO.row (FlatR.cons rfl FlatR.nil)) (by simp only[e14,f4g,a07,a11,Cir.enc,go_sem]) (au:=[.agg c.enc,.slice 0 0 1 (some 1)]) (by simp only[e14,f4g,c10,f4h,a20,c5g]) (e8u c k hl) (a6e _)
theorem a3b(l:List Nat):∃r,b7t l=sl r (l.map a0a):=⟨_,rfl⟩
theorem d3n(c:Cir)(hl:c.nodes.length<1000000):sem L.env Mf 53 [.agg c.enc] []=some (b7t (kinds c.nodes 0),[]):=by
 have hc:=λX=>c0r (d:=false) (H:=[X,some (.row 1 [[.int .u8 0]])]) (b:=1) c (k:=0) rfl hl rfl;obtain⟨r,hr⟩:=a3b (kinds c.nodes 0);rw[hr]at hc⊢;simp only[Cir.enc]at hc⊢
 (refine sv Tryz.f53 ?_;simp only[Tryz.f53,gS])
 (repeat first|simp only[ww]|(apply xa;simp+decide only[go_sem,hc];rfl;kernel_rfl))
 (apply fqb;simp+decide only[go_sem]<;>rfl)
theorem d1o(c:Cir)(hl:c.nodes.length<1000000):sem L.env Mf 33 [.agg c.enc] []=some (b7t (kinds c.nodes 14),[]):=by
 have hc:=λX=>c0r (d:=false) (H:=[X,some (.row 1 [[.int .u8 14]])]) (b:=1) c (k:=14) rfl hl rfl;obtain⟨r,hr⟩:=a3b (kinds c.nodes 14);rw[hr]at hc⊢;simp only[Cir.enc]at hc⊢
 (refine sv Tryz.f33 ?_;simp only[Tryz.f33,gS])
 (repeat first|simp only[ww]|(apply xa;simp+decide only[go_sem,hc];rfl;kernel_rfl))
 (apply fqb;simp+decide only[go_sem]<;>rfl)
theorem a8x{d:Bool}(H:a03)(c:Cir)(hl:c.nodes.length<1000000):a0b L.env d (sem L.env Mf) (.func (.func 53) [] []) [.agg c.enc] H=some (b7t (kinds c.nodes 0),H,[]):=a04 (by kernel_rfl) (by kernel_rfl) rfl (by simp only[a07,a11,Cir.enc,go_sem]) (d3n c hl) (a6e _)
theorem a5w{d:Bool}(H:a03)(c:Cir)(hl:c.nodes.length<1000000):a0b L.env d (sem L.env Mf) (.func (.func 33) [] []) [.agg c.enc] H=some (b7t (kinds c.nodes 14),H,[]):=a04 (by kernel_rfl) (by kernel_rfl) rfl (by simp only[a07,a11,Cir.enc,go_sem]) (d1o c hl) (a6e _)
def c9b(c:Cir):AV:=.func (.func 156) [] [.iptr c.enc]
theorem d21(c:Cir):refs (c9b c)=[]:=by rfl
theorem c9a(c:Cir):sem L.env Mf 136 [.agg c.enc] []=some (c9b c,[]):=by
 unfold c9b;simp only[Cir.enc]
 (refine sv Tryz.f136 ?_;simp only[Tryz.f136,gS])
 (repeat first|simp only[ww]|(apply xa;simp+decide only[go_sem];rfl;kernel_rfl))
 (apply fqb;simp+decide only[go_sem]<;>rfl)
theorem a9r{d:Bool}(H:a03)(c:Cir):a0b L.env d (sem L.env Mf) (.func (.func 136) [] []) [.agg c.enc] H=some (c9b c,H,[]):=a04 (by kernel_rfl) (by kernel_rfl) rfl (by simp only[a07,a11,Cir.enc,go_sem]) (c9a c) rfl
theorem e3f(c:Cir)(m:Nat)(hm:m<c.nodes.length):sem L.env Mf 156 [.int .i64 m,.iptr c.enc] []=some (.bool false,[]):=by
 have c1:¬(m:Int)<0:=by omega
 have c2:¬(c.nodes.length:Int)≤m:=by omega
 simp only[Cir.enc]
 (refine sv Tryz.f156 ?_;simp only[Tryz.f156,gS])
 (repeat first|simp only[ww]|(apply xa;simp+decide only[go_sem,c1,c2];rfl;kernel_rfl))
 (apply fqb;simp+decide only[go_sem]<;>rfl)
theorem c2y{d:Bool}(H:a03)(c:Cir)(m:Nat)(hm:m<c.nodes.length):a0b L.env d (sem L.env Mf) (c9b c) [.int .i64 m] H=some (.bool false,H,[]):=a04 (by kernel_rfl) (by kernel_rfl) rfl (by simp only[a07,Cir.enc,go_sem]) (e3f c m hm) rfl
theorem d3q(r:Rep)(l:List Nat)(f:AV)(hf:refs f=[])(hl:l.length<1000000)(hc:∀m∈l,a0b L.env false (sem L.env Mf) f [.int .i64 m] []=some (.bool false,[],[])) :
 sem L.env Mf 155 [sl r (l.map a0a),f] []=some (.int .i64 (-1),[]):=by
 have hr:∀π,ren π f=f:=λπ=>a14 π f hf
 (refine sv Tryz.f155 ?_;simp only[Tryz.f155,gS])
 (repeat first|simp only[ww]|(apply xa;simp+decide only[go_sem];rfl;kernel_rfl))
 refine a0q (σ:=Nat) kp155_0 (λi=>[(0,sl r (l.map a0a)),(1,f),(7,.int .i64 l.length),(8,.int .i64 i)])
  (λ_=>[]) (λi=>l.length-i) (λi=>i≤l.length) 0 ?_ (f4m _) ?_
 ·(simp+decide only[go_sem,a02,a00,hf,hr]<;>rfl)
 ·intro i hi;by_cases ah:i<l.length
  ·obtain⟨x,hx⟩:∃x,l[i]?=some x:=⟨_,z9e ah⟩
   have c1:(i:Int)<l.length:=by omega
   have hw:=wI1 (n:=i) (by omega);have fe:=hc x (c11 hx)
   (repeat first|simp only[ww]|(apply xa;simp+decide only[go_sem,c1,ah,hx,hw,fe];rfl;kernel_rfl))
   refine a21 (i+1) ?_ (by omega) (by omega)
   (simp+decide only[go_sem,a02,a00,hf,hr]<;>rfl)
  ·obtain rfl:i=l.length:=by omega
   have c1:¬(l.length:Int)<l.length:=by omega
   (repeat first|simp only[ww]|(apply xa;simp+decide only[go_sem,c1];rfl;kernel_rfl))
   (apply fqb;simp+decide only[go_sem]<;>rfl)
theorem d0d(r:Rep)(l:List Nat)(f:AV)(hf:refs f=[])(hl:l.length<1000000)(hc:∀m∈l,a0b L.env false (sem L.env Mf) f [.int .i64 m] []=some (.bool false,[],[])) :
 sem L.env Mf 135 [sl r (l.map a0a),f] []=some (.bool false,[]):=by
 have h:=λH=>a04 (E:=L.env) (ag:=false) (call:=sem L.env Mf) (g:=155) (fs:=[]) (cs:=[]) (ar:=[sl r (l.map a0a),f]) (H:=H) (by kernel_rfl) (by kernel_rfl) rfl (by simp only[e14,f4g,a07,hf,go_sem]) (d3q r l f hf hl hc) rfl;have c1:¬(0:Int)≤ -1:=by omega
 (refine sv Tryz.f135 ?_;simp only[Tryz.f135,gS])
 (repeat first|simp only[ww]|(apply xa;simp+decide only[go_sem,h,c1];rfl;kernel_rfl))
 (apply fqb;simp+decide only[go_sem]<;>rfl)
theorem c44{d:Bool}(H:a03)(c:Cir)(r:Rep)(l:List Nat)(hl:l.length<1000000)(h:∀m∈l,m<c.nodes.length) :
 a0b L.env d (sem L.env Mf) (.func (.func 135) [] []) [sl r (l.map a0a),c9b c] H=some (.bool false,H,[]):=
 a04 (by kernel_rfl) (by kernel_rfl) rfl (by simp only[e14,f4g,a07,d21,go_sem]) (d0d r l (c9b c) rfl hl (λm hm=>c2y [] c m (h m hm))) rfl
/- the drivers of a bus -/
theorem d78(c:Cir)(m:Nat)(hm:m<c.nodes.length)(hk:a0e c.nodes m=12):sem L.env Mf 151 [.int .i64 m,.ptr 0 0 0] [some (.row 4 [c.enc])]=some (.bool false,[some (.row 4 [c.enc])]):=by
 obtain⟨x,hx⟩:∃x,c.nodes[m]?=some x:=⟨_,z9e hm⟩
 rw[a0y hx]at hk;simp only[Cir.enc]
 (refine sv Tryz.f151 ?_;simp only[Tryz.f151,gS])
 (repeat first|simp only[ww]|(apply xa;simp+decide only[go_sem,hx,hk,hm];rfl;kernel_rfl))
 (apply fqb;simp+decide only[go_sem]<;>rfl)
theorem a8e(c:Cir):FlatR [c.enc]:=FlatR.cons (by simp only[Cir.enc,go_sem]) FlatR.nil
theorem c9c{d:Bool}(H:a03)(c:Cir)(b m:Nat)(hb:a01 H b=some (.row 4 [c.enc]))(hm:m<c.nodes.length)(hk:a0e c.nodes m=12):a0b L.env d (sem L.env Mf) (.func (.func 151) [] [.ptr b 0 0]) [.int .i64 m] H=some (.bool false,H,[b]):=a2e (fs:=[]) (cs:=[.ptr b 0 0]) (ar:=[.int .i64 m]) (by kernel_rfl) (by kernel_rfl) rfl hb (a0r (a8e c)) (FlatO.row (a8e c)) rfl (au:=[.int .i64 m,.ptr 0 0 0]) (by simp[ren,b0m]) (d78 c m hm hk) rfl
theorem c9s(r:Rep)(l:List Nat)(c:Cir)(hl:l.length<1000000)(hc:∀m∈l,m<c.nodes.length∧a0e c.nodes m=12) :
 sem L.env Mf 155 [sl r (l.map a0a),.func (.func 151) [] [.ptr 0 0 0]] [some (.row 4 [c.enc])]=some (.int .i64 (-1),[some (.row 4 [c.enc])]):=by
 have aY:a0l c.enc=[]:=by simp only[Cir.enc,go_sem]
 have d6:∀π,c.enc.map (ren π)=c.enc:=λπ=>a4n π aY;have ak:=λm h1 h2=>c9c (d:=false) [some (.row 4 [c.enc])] c 0 m rfl h1 h2;generalize he:c.enc=E at aY d6 ak
 (refine sv Tryz.f155 ?_;simp only[Tryz.f155,gS])
 (repeat first|simp only[ww]|(apply xa;simp+decide only[go_sem];rfl;kernel_rfl))
 refine a0q (σ:=Nat) kp155_0 (λi=>[(0,sl r (l.map a0a)),(1,.func (.func 151) [] [.ptr 0 0 0]),(7,.int .i64 l.length),(8,.int .i64 i)])
  (λ_=>[some (.row 4 [E])]) (λi=>l.length-i) (λi=>i≤l.length) 0 ?_ (f4m _) ?_
 ·(simp+decide only[go_sem,a02,a00,aY,d6]<;>rfl)
 ·intro i hi;by_cases ah:i<l.length
  ·obtain⟨x,hx⟩:∃x,l[i]?=some x:=⟨_,z9e ah⟩
   have c1:(i:Int)<l.length:=by omega
   have hw:=wI1 (n:=i) (by omega);have fe:=ak x (hc x (c11 hx)).1 (hc x (c11 hx)).2
   (repeat first|simp only[ww]|(apply xa;simp+decide only[go_sem,c1,ah,hx,hw,fe];rfl;kernel_rfl))
   refine a21 (i+1) ?_ (by omega) (by omega)
   (simp+decide only[go_sem,a02,a00,aY,d6]<;>rfl)
  ·obtain rfl:i=l.length:=by omega
   have c1:¬(l.length:Int)<l.length:=by omega
   (repeat first|simp only[ww]|(apply xa;simp+decide only[go_sem,c1];rfl;kernel_rfl))
   (apply fqb;simp+decide only[go_sem,d6]<;>rfl)
theorem c45(r:Rep)(l:List Nat)(c:Cir)(hl:l.length<1000000)(hc:∀m∈l,m<c.nodes.length∧a0e c.nodes m=12) :
 sem L.env Mf 135 [sl r (l.map a0a),.func (.func 151) [] [.ptr 0 0 0]] [some (.row 4 [c.enc])]=some (.bool false,[some (.row 4 [c.enc])]):=by
 have h:=a2e (E:=L.env) (ag:=false) (call:=sem L.env Mf) (g:=155) (fs:=[]) (cs:=[]) (ar:=[sl r (l.map a0a),.func (.func 151) [] [.ptr 0 0 0]]) (H:=[some (.row 4 [c.enc])]) (b:=0) (by kernel_rfl) (by kernel_rfl) rfl rfl (a0r (a8e c)) (FlatO.row (a8e c)) (by simp only[e14,f4g,a07,go_sem]) (by simp only[e14,f4g,c10,f4h,b8h];simp[ren,c4w,b0m]) (c9s r l c hl hc) rfl;have c1:¬(0:Int)≤ -1:=by omega
 have aY:a0l c.enc=[]:=by simp only[Cir.enc,go_sem]
 have d6:∀π,c.enc.map (ren π)=c.enc:=λπ=>a4n π aY;generalize he:c.enc=E at aY d6 h
 (refine sv Tryz.f135 ?_;simp only[Tryz.f135,gS])
 (repeat first|simp only[ww]|(apply xa;simp+decide only[go_sem,h,c1];rfl;kernel_rfl))
 (apply fqb;simp+decide only[go_sem,d6]<;>rfl)
theorem c6g{d:Bool}{H:a03}{b:Nat}(c:Cir)(r:Rep)(l:List Nat)(hl:l.length<1000000)(hc:∀m∈l,m<c.nodes.length∧a0e c.nodes m=12)(hb:a01 H b=some (.row 4 [c.enc])) :
 a0b L.env d (sem L.env Mf) (.func (.func 135) [] []) [sl r (l.map a0a),.func (.func 151) [] [.ptr b 0 0]] H=some (.bool false,H,[b]):=
 a2e (fs:=[]) (cs:=[]) (ar:=[sl r (l.map a0a),.func (.func 151) [] [.ptr b 0 0]]) (by kernel_rfl) (by kernel_rfl) rfl hb (a0r (a8e c)) (FlatO.row (a8e c)) (by simp only[e14,f4g,a07,go_sem]) (by simp only[e14,f4g,c10,f4h,b8h];simp[ren,c4w,b0m]) (c45 r l c hl hc) rfl
theorem e9z(c:Cir)(x:Nd)(hm:x.mem=0∧x.bit=0)(hk:x.kind≤14):sem L.env Mf 152 [.agg c.enc,.agg x.enc] []=some (.bool true,[]):=by
 have c1:¬(x.kind:Int)=15:=by omega
 obtain⟨m1,m2⟩:=hm;simp only[Cir.enc,Nd.enc,m1,m2]
 (refine sv Tryz.f152 ?_;simp only[Tryz.f152,gS])
 (repeat first|simp only[ww]|(apply xa;simp+decide only[go_sem,c1];rfl;kernel_rfl))
 (apply fqb;simp+decide only[go_sem]<;>rfl)
theorem d9q{d:Bool}(H:a03)(c:Cir)(x:Nd)(hm:x.mem=0∧x.bit=0)(hk:x.kind≤14):a0b L.env d (sem L.env Mf) (.func (.func 152) [] []) [.agg c.enc,.agg x.enc] H=some (.bool true,H,[]):=a04 (by kernel_rfl) (by kernel_rfl) rfl (by simp only[a07,a11,Cir.enc,go_sem]) (e9z c x hm hk) rfl
theorem e3l(c:Cir)(h:c.wf)(x:Nd)(hx:x∈c.nodes):sem L.env Mf 132 [.agg c.enc,.agg x.enc] []=some (.int .i64 0,[]):=by
 have k14:=h.kind x hx;have aG:=h.lo x hx;have jS:=h.hi x hx;have ai:x.ins.length<1000000:=by
  have:a1m x.kind≤16:=by
   have hk:x.kind=0∨x.kind=1∨x.kind=2∨x.kind=3∨x.kind=4∨x.kind=5∨x.kind=6∨x.kind=7∨x.kind=8∨x.kind=9∨x.kind=10∨x.kind=11∨x.kind=12∨x.kind=13∨x.kind=14:=by omega
   rcases hk with e|e|e|e|e|e|e|e|e|e|e|e|e|e|e<;>rw[e]<;>decide
  omega
 have hf:=λH=>b0k (d:=false) H x.kind (by omega);have ho:=λH=>a9r (d:=true) H c;have hc:=λH=>c44 (d:=true) H c x.c x.ins ai (h.ins x hx);have hb:=λH=>d9q (d:=false) H c x (h.mem x hx) k14;have c1:¬(15:Int)<x.kind:=by omega
 have c2:¬(x.ins.length:Int)<a1e x.kind:=by omega
 have c3:¬(a1m x.kind:Int)<x.ins.length:=by omega
 have aY:a0l c.enc=[]:=by simp only[Cir.enc,go_sem]
 by_cases hk:x.kind=13
 ·have cf:=λ(X:Option AObj)=>c6g (d:=false) (H:=[some (.row 4 [c.enc]),X]) (b:=0) c x.c x.ins ai (λm hm=>⟨h.ins x hx m hm,h.bus x hx hk m hm⟩) rfl;have ck:decide ((x.kind:Int)=13)=true:=f8b (by omega);simp only[Cir.enc,Nd.enc]at ho hc hb cf⊢
  (refine sv Tryz.f132 ?_;simp only[Tryz.f132,gS])
  (repeat first|simp only[ww]|(apply xa;simp+decide only[go_sem,hf,c1,c2,c3,ho,hc,hb,cf,ck];rfl;kernel_rfl))
  (apply fqb;simp+decide only[go_sem]<;>rfl)
 ·have ck:¬(x.kind:Int)=13:=by omega
  simp only[Cir.enc,Nd.enc]at ho hc hb⊢
  (refine sv Tryz.f132 ?_;simp only[Tryz.f132,gS])
  (repeat first|simp only[ww]|(apply xa;simp+decide only[go_sem,hf,c1,c2,c3,ho,hc,hb,ck];rfl;kernel_rfl))
  (apply fqb;simp+decide only[go_sem]<;>rfl)
theorem d2g{d:Bool}(H:a03)(c:Cir)(h:c.wf)(x:Nd)(hx:x∈c.nodes):a0b L.env d (sem L.env Mf) (.func (.func 132) [] []) [.agg c.enc,.agg x.enc] H=some (.int .i64 0,H,[]):=a04 (by kernel_rfl) (by kernel_rfl) rfl (by simp only[a07,a11,Cir.enc,go_sem]) (e3l c h x hx) rfl
theorem d3f(i:Nat)(hi:i<14):sem L.env Mf 153 [.str (a4o i)] []=some (.bool true,[]):=by
 have h:i=0∨i=1∨i=2∨i=3∨i=4∨i=5∨i=6∨i=7∨i=8∨i=9∨i=10∨i=11∨i=12∨i=13:=by omega
 rcases h with rfl|rfl|rfl|rfl|rfl|rfl|rfl|rfl|rfl|rfl|rfl|rfl|rfl|rfl
 ·exact d8f
 ·exact d8e
 ·exact d8d
 ·exact d8c
 ·exact d8b
 ·exact d8a
 ·exact d89
 ·exact d88
 ·exact d87
 ·exact d86
 ·exact d3j
 ·exact d3i
 ·exact d3h
 ·exact d3g
theorem c5w{d:Bool}(H:a03)(i:Nat)(hi:i<14):a0b L.env d (sem L.env Mf) (.func (.func 153) [] []) [.str (a4o i)] H=some (.bool true,H,[]):=a04 (by kernel_rfl) (by kernel_rfl) rfl rfl (d3f i hi) rfl
def a9s(i:Nat):List AV:=(List.range i).map λj=>.str (a4o j)
theorem c5n(i:Nat):a9s (i+1)=a9s i++[.str (a4o i)]:=by unfold a9s;rw[f9k,f6c];rfl
theorem eqS(a b:List UInt8):aeq L.env 6 9 (.str a) (.str b)=some (a==b):=by kernel_rfl
theorem d2p{i j:Nat}(hi:i<14)(hj:j<14)(h:a4o i=a4o j):i=j:=by unfold a4o at h;simp only[List.cons.injEq,and_true,true_and]at h;have h1:=congrArg UInt8.toNat h.1;have h2:=congrArg UInt8.toNat h.2;simp only[UInt8.toNat_ofNat']at h1 h2;omega
theorem d4d(s:Nat)(hs:s<14):∀(l:List Nat) (b:Nat),(∀j∈l,j<s)→a2j (aeq L.env 6 9) (.str (a4o s)) (l.map λj=>.str (a4o j)) b=some none
 | [],b,_=>rfl
 |j::l,b,h=>by
  have aF:(a4o s==a4o j)=false:=by rw[f9i];intro e;have:=d2p hs (by have:=h j (by simp);omega) e;have:=h j (by simp);omega
  simp only[c10,a2j,eqS,aF,f7z];exact d4d s hs l (b+1) (λj hj=>h j (by simp[hj]))
theorem d2k(i:Nat)(hi:i<14):a2j (aeq L.env 6 9) (.str (a4o i)) (a9s i) 0=some none:=d4d i hi _ 0 (λj hj=>by simpa using hj)
def nmO(i:Nat):AObj:=.map (a9s i) (List.replicate i (.bool true)) (List.range i) i
theorem d2j(i:Nat)(hi:i<14):a2f L.env (a01 [some (nmO i)]) 216 (.map 0) (.str (a4o i)) false=some (.bool false):=by
 have h:=d2k i hi;have e:a2f L.env (a01 [some (nmO i)]) 216 (.map 0) (.str (a4o i)) false=match a2j (aeq L.env 6 9) (.str (a4o i)) (a9s i) 0 with
  |some (some j)=>match(List.replicate i (AV.bool true))[j]? with
   |some v=>some (bif false then .tuple [v,.bool true]else v)
   |none=>none
  |some none=>some (.bool false)
  |none=>none:=by kernel_rfl
 rw[e,h]
theorem d2i(i:Nat)(hi:i<14):a16 L.env (a01 [some (nmO i)]) 216 (.map 0) (.str (a4o i)) (.bool true)=some (.set 0 (nmO (i+1))):=by
 have h:=d2k i hi;unfold a16;have e:a9d L.env (a01 [some (nmO i)]) 216 (.map 0) (.str (a4o i))=match a2j (aeq L.env 6 9) (.str (a4o i)) (a9s i) 0 with
  |some (some j)=>match(a9s i)[j]? with
   |some k0=>bif c4l k0 (.str (a4o i))then some (0,a9s i,List.replicate i (AV.bool true),List.range i,i,some j)else none
   |none=>none
  |some none=>some (0,a9s i,List.replicate i (AV.bool true),List.range i,i,none)
  |none=>none:=by kernel_rfl
 rw[e,h];simp only[nmO,c5n,f9k,List.replicate_succ']
theorem c5m(i:Nat):a0x (some (nmO i))=[]:=by
 simp only[nmO,a0x,a9s];have h1:∀l:List Nat,a0l (l.map λj=>AV.str (a4o j))=[]:=by intro l;induction l with|nil=>rfl|cons a l ih=>simp[a0l,refs,ih]
 have h2:∀n,a0l (List.replicate n (AV.bool true))=[]:=by intro n;induction n with|zero=>rfl|succ n ih=>simp[g0l,a0l,refs,ih]
 rw[h1,h2];rfl
theorem e16(π:Nat→Option Nat)(i:Nat):a0t π (nmO i)=nmO i:=by have h:=c5m i;simp only[nmO,a0x,List.append_eq_nil_iff]at h;simp only[nmO,a0t,a4n π h.1,a4n π h.2]
theorem d7f(c:Cir)(h:c.wf):sem L.env Mf 133 [.agg c.enc] []=some (.int .i64 0,[]):=by
 have hn:=h.len;have pB:c.names.length=c.nodes.length:=by rw[h.names];simp
 simp only[Cir.enc]
 (refine sv Tryz.f133 ?_;simp only[Tryz.f133,gS])
 (repeat first|simp only[ww]|(apply xa;simp+decide only[go_sem];rfl;kernel_rfl))
 have e0:AObj.map [] [] [] 0=nmO 0:=by rfl
 refine a0q (σ:=Nat) kp133_0 (λi=>[(3,.map 0),(8,sl c.mc (c.names.map a13)),(9,.int .i64 c.names.length),(10,.int .i64 i)])
  (λi=>[some (nmO i)]) (λi=>c.names.length-i) (λi=>i≤c.names.length) 0 ?_ (f4m _) ?_
 ·rw[e0]
  (simp+decide only[go_sem,a02,a00,c5m,e16]<;>rfl)
 ·intro i hi;by_cases ah:i<c.names.length
  ·have hx:c.names[i]?=some (a4o i):=by rw[h.names,f4q,g07 (by omega)];rfl
   have c1:(i:Int)<c.names.length:=by omega
   have hw:=wI1 (n:=i) (by omega);have kQ:=λH=>c5w (d:=false) H i (by omega);have cg:=d2j i (by omega);have fG:=d2i i (by omega)
   (repeat first|simp only[ww]|(apply xa;simp+decide only[go_sem,c1,ah,hx,hw,kQ,cg,fG];rfl;kernel_rfl))
   refine a21 (i+1) ?_ (by omega) (by omega)
   (simp+decide only[go_sem,a02,a00,c5m,e16]<;>rfl)
  ·obtain rfl:i=c.names.length:=by omega
   have c1:¬(c.names.length:Int)<c.names.length:=by omega
   (repeat first|simp only[ww]|(apply xa;simp+decide only[go_sem,c1];rfl;kernel_rfl))
   (apply fqb;simp+decide only[go_sem]<;>rfl)
theorem a5c(c:Cir):a0l [.agg c.enc]=[]:=by simp only[a07,a11,Cir.enc,go_sem]
theorem c9e{d:Bool}(H:a03)(c:Cir)(h:c.wf):a0b L.env d (sem L.env Mf) (.func (.func 133) [] []) [.agg c.enc] H=some (.int .i64 0,H,[]):=a04 (by kernel_rfl) (by kernel_rfl) rfl (a5c c) (d7f c h) rfl
theorem d6v(c:Cir)(h:c.wf):sem L.env Mf 93 [.agg c.enc] []=some (.int .i64 0,[]):=by
 have hn:=h.len;have pB:c.names.length=c.nodes.length:=by rw[h.names];simp
 have bW:=h.outl;have c1:¬(16384:Int)<c.nodes.length:=by omega
 have c2:¬(16384:Int)<c.outs.length:=by omega
 have dv:=λH x hx=>d2g (d:=false) H c h x hx;have jL:=λH=>c9e (d:=false) H c h;have m6:=λH=>a9r (d:=true) H c;have tu:=λH=>c44 (d:=true) H c c.oc c.outs (by omega) h.outs;have ai:c.enc.length=4:=rfl;simp only[Cir.enc]at dv jL m6 tu⊢
 (refine sv Tryz.f93 ?_;simp only[Tryz.f93,gS])
 (repeat first|simp only[ww]|(apply xa;simp+decide only[go_sem,c1,c2,pB];rfl;kernel_rfl))
 refine a0q (σ:=Nat) kp93_1 (λi=>[(1,.ptr 0 0 0),(36,sl c.nc (c.nodes.map Nd.enc)),(37,.int .i64 c.nodes.length),(38,.int .i64 i)])
  (λi=>[some (.row 4 [[sl c.nc (c.nodes.map Nd.enc),sl c.mc (c.names.map a13),.nilslice,sl c.oc (c.outs.map a0a)]])]) (λi=>c.nodes.length-i) (λi=>i≤c.nodes.length) 0 ?_ (f4m _) ?_
 ·(simp+decide only[go_sem,a02,a00]<;>rfl)
 ·intro i hi;by_cases ah:i<c.nodes.length
  ·obtain⟨x,hx⟩:∃x,c.nodes[i]?=some x:=⟨_,z9e ah⟩
   have c1:(i:Int)<c.nodes.length:=by omega
   have hw:=wI1 (n:=i) (by omega);have fe:=λH=>dv H x (c11 hx);simp only[Nd.enc]at fe
   (repeat first|simp only[ww]|(apply xa;simp+decide only[go_sem,c1,ah,hx,hw,fe];rfl;kernel_rfl))
   refine a21 (i+1) ?_ (by omega) (by omega)
   (simp+decide only[go_sem,a02,a00]<;>rfl)
  ·obtain rfl:i=c.nodes.length:=by omega
   have c1:¬(c.nodes.length:Int)<c.nodes.length:=by omega
   (repeat first|simp only[ww]|(apply xa;simp+decide only[go_sem,c1,jL];rfl;kernel_rfl))
   refine a0q (σ:=Nat) kp93_3 (λi=>[(1,.ptr 0 0 0),(55,.nilslice),(56,.int .i64 0),(57,.int .i64 0)])
    (λi=>[some (.row 4 [[sl c.nc (c.nodes.map Nd.enc),sl c.mc (c.names.map a13),.nilslice,sl c.oc (c.outs.map a0a)]])]) (λi=>0) (λi=>True) 0 ?_ trivial ?_
   ·(simp+decide only[go_sem,a02,a00]<;>rfl)
   ·intro i _
    (repeat first|simp only[ww]|(apply xa;simp+decide only[go_sem,m6,tu];rfl;kernel_rfl))
    (apply fqb;simp+decide only[go_sem]<;>rfl)
theorem c8w{d:Bool}(H:a03)(c:Cir)(h:c.wf):a0b L.env d (sem L.env Mf) (.func (.func 93) [] []) [.agg c.enc] H=some (.int .i64 0,H,[]):=a04 (by kernel_rfl) (by kernel_rfl) rfl (a5c c) (d6v c h) rfl
theorem b7a{d:Bool}(H:a03)(k:Nat)(hk:k<256):a0b L.env d (sem L.env Mf) (.func (.func 24) [] []) [.int .u8 k] H=some (.bool (a1o k),H,[]):=a04 (by kernel_rfl) (by kernel_rfl) rfl rfl (e5a k hk) rfl
def foE(fo:List (List (Nat×Nat))):List (List (List AV)):=fo.map (·.map a9x)
theorem a7b(fo:List (List (Nat×Nat))):(foE fo).length=fo.length:=by unfold foE;simp
theorem a8z{fo:List (List (Nat×Nat))}{j:Nat}{L:List (Nat×Nat)}(h:fo[j]?=some L):(foE fo)[j]?=some (L.map a9x):=by unfold foE;rw[f4q,h];rfl
theorem d48(fo:List (List (Nat×Nat)))(j:Nat)(L:List (Nat×Nat))(i k:Nat):(foE fo).set j (L.map a9x++[a9x (i,k)])=foE (fo.set j (L++[(i,k)])):=by unfold foE;rw[f9n,f6c];rfl
def J0(c:Cir)(n:Nat)(F:Frm)(H:a03):Prop:=∃i b am fo,n=c.nodes.length-i∧i≤c.nodes.length∧
 F=[(3,.slice b 0 c.nodes.length (some c.nodes.length)),(4,c9b c),(18,sl c.nc (c.nodes.map Nd.enc)),(19,.int .i64 c.nodes.length),(20,.int .i64 i)]∧Two H b 2 am (λ_=>none) (foE fo)∧FoOk c.nodes i 0 fo
def J2(c:Cir)(i:Nat)(x:Nd)(n:Nat)(F:Frm)(H:a03):Prop:=∃k b am fo,n=x.ins.length-k∧k≤x.ins.length∧
 F=[(3,.slice b 0 c.nodes.length (some c.nodes.length)),(4,c9b c),(5,.int .i64 i),(18,sl c.nc (c.nodes.map Nd.enc)),(19,.int .i64 c.nodes.length),(20,.int .i64 i),(26,sl x.c (x.ins.map a0a)),(27,.int .i64 x.ins.length),(28,.int .i64 k)]∧Two H b 2 am (λ_=>none) (foE fo)∧FoOk c.nodes i k fo
def cpT(fo:List (List (Nat×Nat)))(t:Nat):Nat→Option Nat:=λj=>if j<t then(fo[j]?).map List.length else none
def J4(c:Cir)(fo:List (List (Nat×Nat)))(n:Nat)(F:Frm)(H:a03):Prop:=∃t b am,n=c.nodes.length-t∧t≤c.nodes.length∧
 F=[(3,.slice b 0 c.nodes.length (some c.nodes.length)),(51,.slice b 0 c.nodes.length (some c.nodes.length)),(52,.int .i64 c.nodes.length),(53,.int .i64 t)]∧Two H b 2 am (cpT fo t) (foE fo)
theorem d6e(H:a03)(n:Nat)(b:Nat)(h:a01 H b=some (.row 1 (List.replicate n [.nilslice]))):Two H b 2 (λ_=>0) (λ_=>none) (foE (List.replicate n [])):=by
 have fW:foE (List.replicate n [])=List.replicate n []:=by unfold foE;rw[List.map_replicate];rfl
 rw[fW];have dv:∀(j:Nat) (f:List (List AV)),(List.replicate n ([]:List (List AV)))[j]?=some f→f=[]:=by
  intro j f hf;rw[g0r]at hf;split at hf
  ·cases hf;rfl
  ·cases hf
 refine⟨?_,λj f hf aF=>absurd (dv j f hf) aF,λi j f g hf _ aF=>absurd (dv i f hf) aF,λf hf=>?_⟩
 ·rw[h]
  congr 2
  apply f8l;intro j;unfold a72;rw[f5y,g0r,g0r];split<;>rfl
 ·rw[(List.mem_replicate.1 hf).2];exact FlatR.nil
theorem d97(fo:List (List (Nat×Nat))):cpT fo 0=λ_=>none:=by funext j;simp[cpT]
theorem d98{fo:List (List (Nat×Nat))}{t:Nat}{L:List (Nat×Nat)}(h:fo[t]?=some L):(λi=>if i=t then some L.length else cpT fo t i)=cpT fo (t+1):=by
 funext j
 unfold cpT;by_cases h1:j=t
 ·subst h1;simp[h]
 ·by_cases h2:j<t
  ·simp[h1,h2,show j<t+1 by omega]
  ·simp[h1,h2,show ¬j<t+1 by omega]
theorem d50:sem L.env Mf 28 [.nilslice] []=some (.nilslice,[]):=by
 (refine sv Tryz.f28 ?_;simp only[Tryz.f28,gS])
 (repeat first|simp only[ww]|(apply xa;simp+decide only[go_sem];rfl;kernel_rfl))
 (apply fqb;simp+decide only[go_sem]<;>rfl)
theorem d9j(n:Nat)(aa:List (List AV))(hf:FlatR aa):sem L.env Mf 28 [.slice 0 0 n none] [some (.row 2 aa)]=some (.slice 0 0 n (some n),[some (.row 2 aa)]):=by
 have h1:=λπ=>a0c π hf
 (refine sv Tryz.f28 ?_;simp only[Tryz.f28,gS])
 (repeat first|simp only[ww]|(apply xa;simp+decide only[go_sem];rfl;kernel_rfl))
 (apply fqb;simp+decide only[go_sem,h1]<;>rfl)
theorem b7c{d:Bool}(H:a03):a0b L.env d (sem L.env Mf) (.func (.func 28) [] []) [.nilslice] H=some (.nilslice,H,[]):=a04 (by kernel_rfl) (by kernel_rfl) rfl rfl d50 rfl
theorem b3p{d:Bool}{H:a03}{b n:Nat}{aa:List (List AV)}(hf:FlatR aa)(hb:a01 H b=some (.row 2 aa)):a0b L.env d (sem L.env Mf) (.func (.func 28) [] []) [.slice b 0 n none] H=some (.slice b 0 n (some n),H,[b]):=by have h:=a60 (E:=L.env) (ag:=d) (call:=sem L.env Mf) (g:=28) (fs:=[]) (cs:=[]) (ar:=[.slice b 0 n none]) (H:=H) (b:=b) (by kernel_rfl) (by kernel_rfl) rfl hb (a0r hf) (FlatO.row hf) rfl (au:=[AV.slice 0 0 n none]) (by simp only[e14,f4g,c10,f4h,a20]) (d9j n aa hf) (FlatO.row hf) (b1d b 0 _ n _);rw[a8k hb]at h;exact h
theorem d4h(c:Cir)(h:c.wf):∃r:AV×a03,(∃fo,FoOk c.nodes c.nodes.length 0 fo∧r=(AV.islice ((foE fo).mapIdx λj f=>[slF (cpT fo c.nodes.length j) f]) (some c.nodes.length),[]))∧sem L.env Mf 94 [.agg c.enc] []=some r:=by
 have hn:=h.len;have m6:=λH=>a9r (d:=false) H c;have aE:c.nodes.length≤1000000000:=by omega
 have hov:refs (c9b c)=[]:=rfl;have cw:∀π,ren π (c9b c)=c9b c:=λπ=>a14 π _ rfl;have dX:=λH m hm=>c2y (d:=false) H c m hm;generalize hO:c9b c=O at m6 hov cw dX;simp only[Cir.enc]at m6⊢
 (refine svE Tryz.f94 ?_;simp only[Tryz.f94,gS])
 (repeat first|simp only[ww]|(apply xa;simp+decide only[go_sem,m6,aE];rfl;kernel_rfl))
 refine a4l kp94_0 (J0 c) (c.nodes.length-0) ?_ ?_
 ·refine a7m (d6e _ c.nodes.length 1 rfl) ?_ (by rw[a7b];simp;omega) ?_
  ·exact .inl (by simp+decide only[go_sem,hov])
  ·intro π b' aJ H1 hb hT;refine⟨0,b',aJ,_,rfl,f4m _,?_,hT,FoOk.zero _⟩;simp+decide only[go_sem,hb,cw,hO]<;>rfl
 ·rintro n F H ⟨i,b,am,fo,rfl,hi,rfl,hT,hF⟩
  by_cases ah:i<c.nodes.length
  ·obtain⟨x,hx⟩:∃x,c.nodes[i]?=some x:=⟨_,z9e ah⟩
   have c1:(i:Int)<c.nodes.length:=by omega
   have hw:=wI1 (n:=i) (by omega);have dZ:=a0i hT.top;have pr:=a1c hx;rw[hO]
   (repeat first|simp only[ww]|(apply xa;simp+decide only[go_sem,c1,ah,hx,hw,a1v,a2p,a4h,a6d,a3t];rfl;kernel_rfl))
   refine a4l kp94_2 (J2 c i x) (x.ins.length-0) ?_ ?_
   ·refine a7m (hT.more) ?_ (by rw[a7b,hF.len];omega) ?_
    ·exact .inl (by simp+decide only[go_sem,hov])
    ·intro π b' aJ H1 hb hT;refine⟨0,b',aJ,_,rfl,f4m _,?_,hT,hF⟩;simp+decide only[go_sem,hb,cw,hO]<;>rfl
   ·rintro n F H ⟨k,b,am,fo,rfl,hk,rfl,hT,hF⟩
    rw[hO];by_cases dw:k<x.ins.length
    ·obtain⟨m,hm⟩:∃m,x.ins[k]?=some m:=⟨_,z9e dw⟩
     have dY:=h.ins x (c11 hx) m (c11 hm);have sS:=λH=>dX H m dY;have c2:(k:Int)<x.ins.length:=by omega
     have cM:=h.insl (c11 hx);have fE:=wI1 (n:=k) (by omega);have dZ:=a0i hT.top;have jA:=hT.top;have uP:m<fo.length:=by rw[hF.len];exact dY
     obtain⟨L,hL⟩:∃L,fo[m]?=some L:=⟨_,z9e uP⟩
     have aI:=b5m (am:=am) (cp:=λ_=>none) (a8z hL);have br:=hF.step (by rw[pr];exact hm) hL;have dM:(a72 am (λ_=>none) (foE fo)).length=c.nodes.length:=by rw[a85,a7b,hF.len]
     cases L with
     |nil=>
      simp only[f4h,slV]at aI
      (repeat first|simp only[ww]|(apply xa;simp+decide only[go_sem,c2,dw,hm,fE,sS,dZ,jA,dY,aI,a1v,a2p,a1g,a4h,a6d,a9l,a3t,a5h,f4i,f6a,e14,dM];rfl;kernel_rfl))
      refine a1j (x.ins.length-(k+1)) (by omega) ?_;have eD:=hT.app1 (o:=some (.row 2 [a9x (i,k)])) (x:=a9x (i,k)) (a8z hL) rfl rfl;have e2:(foE fo).set m [a9x (i,k)]=foE (fo.set m ([]++[(i,k)])):=d48 fo m [] i k;rw[e2]at eD;refine a7m eD ?_ (by rw[a7b,f6j,hF.len];omega) ?_
      ·exact .inl (by simp+decide only[go_sem,hov])
      ·intro π b' aJ H1 hb hT;refine⟨k+1,b',aJ,_,rfl,dw,?_,hT,br⟩;simp+decide only[go_sem,hb,cw,hO]<;>rfl
     |cons a r=>
      simp only[c10,slV]at aI;have aV:=hT.sub m _ (a8z hL) (by simp);obtain⟨s1,s2⟩:=aV;have s3:=a0i s1;simp only[c10]at s1;have mO:r.length+1+1≤1000000000:=by have:=hF.total hL (h.len) (λy hy=>h.insl hy);simp only[e12]at this;omega
      (repeat first|simp only[ww]|(apply xa;simp+decide only[go_sem,c2,dw,hm,fE,sS,dZ,jA,dY,aI,a1v,a2p,a1g,a3r,f6j,s1,s2,s3,mO,a4h,a6d,a9l,a3t,a5h,f4i,f6a,e14,dM];rfl;kernel_rfl))
      refine a1j (x.ins.length-(k+1)) (by omega) ?_;have eD:=hT.app2 (o:=some (.row 2 [a9x (i,k)])) (x:=a9x (i,k)) (a8z hL) rfl rfl;have e2:(foE fo).set m (a9x a::List.map a9x r++[a9x (i,k)])=foE (fo.set m (a::r++[(i,k)])):=d48 fo m (a::r) i k;rw[e2]at eD;rw[f4j]at eD;refine a7m eD ?_ (by rw[a7b,f6j,hF.len];omega) ?_
      ·exact .inl (by simp+decide only[go_sem,hov])
      ·intro π b' aJ H1 hb hT;refine⟨k+1,b',aJ,_,rfl,dw,?_,hT,br⟩;simp+decide only[go_sem,hb,cw,hO]<;>rfl
    ·obtain rfl:k=x.ins.length:=by omega
     have c2:¬(x.ins.length:Int)<x.ins.length:=by omega
     (repeat first|simp only[ww]|(apply xa;simp+decide only[go_sem,c2,hw];rfl;kernel_rfl))
     refine a1j (c.nodes.length-(i+1)) (by omega) ?_;refine a7m hT ?_ (by rw[a7b,hF.len];omega) ?_
     ·exact .inl (by simp+decide only[go_sem,hov])
     ·intro π b' aJ H1 hb hT;refine⟨i+1,b',aJ,_,rfl,by omega,?_,hT,hF.next (by rw[pr])⟩;simp+decide only[go_sem,hb,cw,hO]<;>rfl
  ·obtain rfl:i=c.nodes.length:=by omega
   have c1:¬(c.nodes.length:Int)<c.nodes.length:=by omega
   rw[hO]
   (repeat first|simp only[ww]|(apply xa;simp+decide only[go_sem,c1];rfl;kernel_rfl))
   refine a4l kp94_4 (J4 c fo) (c.nodes.length-0) ?_ ?_
   ·refine a7m hT ?_ (by rw[a7b,hF.len];omega) ?_
    ·exact .inr (by simp+decide only[go_sem,hov])
    ·intro π b' aJ H1 hb hT;refine⟨0,b',aJ,rfl,f4m _,?_,by rw[d97];exact hT⟩;simp+decide only[go_sem,hb,cw,hO]<;>rfl
   ·rintro n F H ⟨t,b,am,rfl,ht,rfl,hT⟩
    by_cases bJ:t<c.nodes.length
    ·have c2:(t:Int)<c.nodes.length:=by omega
     have fE:=wI1 (n:=t) (by omega);have dZ:=a0i hT.top;have jA:=hT.top;obtain⟨L,hL⟩:∃L,fo[t]?=some L:=⟨_,z9e (by rw[hF.len];exact bJ)⟩
     have aI:=b5m (am:=am) (cp:=cpT fo t) (a8z hL);have ni:cpT fo t t=none:=by simp[cpT]
     have dM:(a72 am (cpT fo t) (foE fo)).length=c.nodes.length:=by rw[a85,a7b,hF.len]
     rw[ni]at aI;have bh:∀H1,H1=H.set b (some (.row 1 ((a72 am (cpT fo t) (foE fo)).set t [slV (am t) (some L.length) (L.map a9x)])))→Two H1 b 2 am (cpT fo (t+1)) (foE fo):=by
      intro H1 nr;have:=hT.clip (H1:=H1) (a8z hL) (by rw[nr,b44 dZ]) (λc hc=>by rw[nr,a7q (f9m hc)])
      rwa [d98 hL]at this
     cases L with
     |nil=>
      simp only[f4h,slV]at aI;have cD:=λH=>b7c (d:=false) H
      (repeat first|simp only[ww]|(apply xa;simp+decide only[go_sem,c2,bJ,fE,dZ,jA,aI,cD,dM,f6j];rfl;kernel_rfl))
      refine a1j (c.nodes.length-(t+1)) (by omega) ?_;refine a7m (bh _ rfl) ?_ (by rw[a7b,hF.len];omega) ?_
      ·exact .inr (by simp+decide only[go_sem,hov])
      ·intro π b' aJ H1 hb hT;refine⟨t+1,b',aJ,rfl,by omega,?_,hT⟩;simp+decide only[go_sem,hb,cw,hO]<;>rfl
     |cons a r=>
      simp only[c10,slV]at aI;obtain⟨s1,s2⟩:=hT.sub t _ (a8z hL) (by simp);have cD:=b3p (d:=false) (H:=H) (b:=am t) (n:=r.length+1) (hT.flat _ (c11 (a8z hL))) s1
      (repeat first|simp only[ww]|(apply xa;simp+decide only[go_sem,c2,bJ,fE,dZ,jA,aI,cD,dM,f6j];rfl;kernel_rfl))
      refine a1j (c.nodes.length-(t+1)) (by omega) ?_;refine a7m (bh _ (by simp only[c10,slV,f4j,e12])) ?_ (by rw[a7b,hF.len];omega) ?_
      ·exact .inr (by simp+decide only[go_sem,hov])
      ·intro π b' aJ H1 hb hT;refine⟨t+1,b',aJ,rfl,by omega,?_,hT⟩;simp+decide only[go_sem,hb,cw,hO]<;>rfl
    ·obtain rfl:t=c.nodes.length:=by omega
     have c2:¬(c.nodes.length:Int)<c.nodes.length:=by omega
     have hz:=hT.frz (some c.nodes.length);rw[a7b,hF.len]at hz
     (repeat first|simp only[ww]|(apply xa;simp+decide only[go_sem,c2];rfl;kernel_rfl))
     refine c3w (vs:=[.slice b 0 c.nodes.length (some c.nodes.length)]) (r:=(_,[])) (by simp+decide only[go_sem]) ?_ ⟨fo,hF,rfl⟩;show a1f false 0 (.slice b 0 c.nodes.length (some c.nodes.length)) H=_;rw[b25,hz];rfl
def foR(c:Cir)(fo:List (List (Nat×Nat))):List (List AV):=(foE fo).mapIdx λj f=>[slF (cpT fo c.nodes.length j) f]
theorem e4o{c:Cir}{fo:List (List (Nat×Nat))}{j:Nat}{L:List (Nat×Nat)}(h:fo[j]?=some L)(hj:j<c.nodes.length):(foR c fo)[j]?=some [slF (some L.length) (L.map a9x)]:=by unfold foR;rw[f5y,a8z h];simp[cpT,hj,h]
theorem c69(c:Cir)(h:c.wf):∃fo,FoOk c.nodes c.nodes.length 0 fo∧∀(d:Bool) (H:a03),a0b L.env d (sem L.env Mf) (.func (.func 94) [] []) [.agg c.enc] H=some (.islice (foR c fo) (some c.nodes.length),H,[]):=by obtain⟨r,⟨fo,h1,rfl⟩,h2⟩:=d4h c h;exact⟨fo,h1,λd H=>a04 (by kernel_rfl) (by kernel_rfl) rfl (a5c c) h2 rfl⟩
def kcb(c:Cir):Option AObj:=some (.row 4 [[sl c.nc (c.nodes.map Nd.enc),sl c.mc (c.names.map a13),.nilslice,sl c.oc (c.outs.map a0a)]])
attribute [go_sem] kcb
def JL2(c:Cir)(fo:List (List (Nat×Nat)))(n:Nat)(F:Frm)(H:a03):Prop:=∃(aD left ready:List Nat) (done:Nat),n=c.nodes.length-done∧
 F=[(1,.ptr 0 0 0),(5,.slice 1 0 c.nodes.length (some c.nodes.length)),(6,.slice 2 0 c.nodes.length (some c.nodes.length)),(7,grV 3 (ready.map a0a)),(10,.islice (foR c fo) (some c.nodes.length)),(11,.int .i64 done)]∧
 H=[kcb c,some (.row 1 (aD.map a0a)),some (.row 1 (left.map a0a))]++grH 1 (ready.map a0a)∧Kahn c.nodes left ready done []∧aD.length=c.nodes.length∧(∀v∈aD,v≤300*done)∧Lev c.nodes aD ready done []
def JL4(c:Cir)(fo:List (List (Nat×Nat)))(done x:Nat)(L:List (Nat×Nat))(n:Nat)(F:Frm)(H:a03):Prop:=∃(aD left ready:List Nat) (q:Nat),n=L.length-q∧q≤L.length∧
 F=[(1,.ptr 0 0 0),(5,.slice 1 0 c.nodes.length (some c.nodes.length)),(6,.slice 2 0 c.nodes.length (some c.nodes.length)),(7,grV 3 (ready.map a0a)),(10,.islice (foR c fo) (some c.nodes.length)),(11,.int .i64 (done+1:Nat)),(12,.int .i64 x),(76,.islice (L.map a9x) (some L.length)),(77,.int .i64 L.length),(78,.int .i64 q)]∧
 H=[kcb c,some (.row 1 (aD.map a0a)),some (.row 1 (left.map a0a))]++grH 1 (ready.map a0a)∧Kahn c.nodes left ready done (L.take q)∧ready[done]?=some x∧aD.length=c.nodes.length∧(∀v∈aD,v≤300*done+q)∧Lev c.nodes aD ready done (L.take q)
theorem f7y(n:Nat):List.replicate n [AV.int .i64 0]=(List.replicate n 0).map a0a:=by rw[List.map_replicate];rfl
theorem d9x(a b:Nat):d9y (.int .i64 a) [.int .i64 (b:Int)]=some (.int .i64 ((max a b:Nat):Int)):=by
 simp only[d9y];by_cases h:(b:Int)>a
 ·rw[f6e h];congr 2;omega
 ·rw[f4n h];congr 2;omega
theorem d35(c:Cir)(h:c.wf):∃r:AV×a03,(∃lv:List Nat,lv.length=c.nodes.length∧(∀v∈lv,v≤100000)∧Rises c.nodes lv∧r=(.tuple [.islice (lv.map a0a) (some c.nodes.length),.int .i64 0],[]))∧sem L.env Mf 48 [.agg c.enc] []=some r:=by
 have hn:=h.len;obtain⟨fo,fW,ko⟩:=c69 c h;have ko:=ko false;have sL:=λH=>c8w (d:=false) H c h;have aE:c.nodes.length≤1000000000:=by omega
 have pH:a0x (kcb c)=[]:=by simp only[go_sem]
 simp only[Cir.enc]at ko sL⊢
 (refine svE Tryz.f48 ?_;simp only[Tryz.f48,gS])
 (repeat first|simp only[ww]|(apply xa;simp+decide only[go_sem,sL,aE];rfl;kernel_rfl))
 refine a0q (σ:=Nat) kp48_0 (λi=>[(1,.ptr 0 0 0),(5,.slice 1 0 c.nodes.length (some c.nodes.length)),(6,.slice 2 0 c.nodes.length (some c.nodes.length)),(7,grV 3 ((a4s c.nodes i).map a0a)),(29,sl c.nc (c.nodes.map Nd.enc)),(30,.int .i64 c.nodes.length),(31,.int .i64 i)])
  (λi=>[kcb c,some (.row 1 ((List.replicate c.nodes.length 0).map a0a)),some (.row 1 ((a3z c.nodes i).map a0a))]++grH 1 ((a4s c.nodes i).map a0a)) (λi=>c.nodes.length-i) (λi=>i≤c.nodes.length) 0 ?_ (f4m _) ?_
 ·rw[c5s,show a4s c.nodes 0=[]from rfl]
  (simp+decide only[go_sem,a02,a00,f7y,f4h,a0g,a0h,a2d,a3l]<;>rfl)
 ·intro i hi;by_cases ah:i<c.nodes.length
  ·obtain⟨x,hx⟩:∃x,c.nodes[i]?=some x:=⟨_,z9e ah⟩
   have c1:(i:Int)<c.nodes.length:=by omega
   have hw:=wI1 (n:=i) (by omega);have k14:=h.kind x (c11 hx);have dz:=λH=>b7a (d:=false) H x.kind (by omega);have aQ:(a3z c.nodes i).length=c.nodes.length:=by simp[a3z]
   have gI:(a3z c.nodes i)[i]?=some 0:=by rw[a6v ah];simp
   have dM:=c95 c.nodes i;have gm:=c2m c.nodes i;have bi:=b6g ah;have i6:(a3z c.nodes (i+1))[i]?=some (b1u c.nodes i):=by rw[a6v ah];simp
   have bQ:b1u c.nodes i=if a1o x.kind=true then x.ins.length else 0:=by unfold b1u;rw[a0y hx,a1c hx]
   have fm:((a3z c.nodes i).map a0a).set i [AV.int .i64 (b1u c.nodes i)]=(a3z c.nodes (i+1)).map a0a:=by rw[←bi,f9n];rfl
   by_cases dG:a1o x.kind=true
   ·rw[f6e dG]at bQ;rw[bQ]at fm i6 gm;by_cases hz:x.ins.length=0
    ·rw[f6e hz]at gm;have e5:(x.ins.length:Int)=0:=by omega
     rw[hz]at fm i6;generalize a4s c.nodes i=l at dM gm;cases l with
     |nil=>
      (repeat first|simp only[ww]|(apply xa;simp+decide only[go_sem,c1,ah,hx,hw,dz,dG,aQ,gI,fm,i6,hz,f4h,a0g,a0h];rfl;kernel_rfl))
      refine a21 (i+1) ?_ (by omega) (by omega);rw[gm]
      (simp+decide only[go_sem,a02,a00,f4h,e14,c10,a05,a06,f4o,a2d,a3l]<;>rfl)
     |cons a r=>
      simp only[e12]at dM;have jE:r.length+1+1≤1000000000:=by omega
      (repeat first|simp only[ww]|(apply xa;simp+decide only[go_sem,c1,ah,hx,hw,dz,dG,aQ,gI,fm,i6,hz,c10,a05,a06,jE,e12];rfl;kernel_rfl))
      refine a21 (i+1) ?_ (by omega) (by omega);rw[gm]
      (simp+decide only[go_sem,a02,a00,f6a,c10,a05,a06,a2d,a3l,e12]<;>rfl)
    ·rw[f4n hz]at gm;have e5:¬(x.ins.length:Int)=0:=by omega
     generalize a4s c.nodes i=l at dM gm;cases l with
     |nil=>
      (repeat first|simp only[ww]|(apply xa;simp+decide only[go_sem,c1,ah,hx,hw,dz,dG,aQ,gI,fm,i6,e5,f4h,a0g,a0h];rfl;kernel_rfl))
      refine a21 (i+1) ?_ (by omega) (by omega);rw[gm]
      (simp+decide only[go_sem,a02,a00,f4h,a0g,a0h,a2d,a3l]<;>rfl)
     |cons a r=>
      (repeat first|simp only[ww]|(apply xa;simp+decide only[go_sem,c1,ah,hx,hw,dz,dG,aQ,gI,fm,i6,e5,c10,a05,a06];rfl;kernel_rfl))
      refine a21 (i+1) ?_ (by omega) (by omega);rw[gm]
      (simp+decide only[go_sem,a02,a00,c10,a05,a06,a2d,a3l]<;>rfl)
   ·have dG:a1o x.kind=false:=by simpa using dG
    rw[dG]at bQ;have bQ:b1u c.nodes i=0:=bQ;rw[bQ,f6e rfl]at gm;have cF:=c5t ah bQ
    ·
     generalize a4s c.nodes i=l at dM gm;cases l with
     |nil=>
      (repeat first|simp only[ww]|(apply xa;simp+decide only[go_sem,c1,ah,hx,hw,dz,dG,aQ,gI,f4h,a0g,a0h];rfl;kernel_rfl))
      refine a21 (i+1) ?_ (by omega) (by omega);rw[gm,←cF]
      (simp+decide only[go_sem,a02,a00,f4h,e14,c10,a05,a06,f4o,a2d,a3l]<;>rfl)
     |cons a r=>
      simp only[e12]at dM;have jE:r.length+1+1≤1000000000:=by omega
      (repeat first|simp only[ww]|(apply xa;simp+decide only[go_sem,c1,ah,hx,hw,dz,dG,aQ,gI,c10,a05,a06,jE,e12];rfl;kernel_rfl))
      refine a21 (i+1) ?_ (by omega) (by omega);rw[gm,←cF]
      (simp+decide only[go_sem,a02,a00,f6a,c10,a05,a06,a2d,a3l,e12]<;>rfl)
  ·obtain rfl:i=c.nodes.length:=by omega
   have c1:¬(c.nodes.length:Int)<c.nodes.length:=by omega
   have hK:=Kahn.start c.nodes;generalize a4s c.nodes c.nodes.length=ready at hK;generalize a3z c.nodes c.nodes.length=left at hK
   (repeat first|simp only[ww]|(apply xa;simp+decide only[go_sem,c1,ko];rfl;kernel_rfl))
   refine a4l kp48_2 (JL2 c fo) (c.nodes.length-0) ?_ ?_
   ·refine⟨_,_,?_,List.replicate c.nodes.length 0,left,ready,0,rfl,rfl,rfl,hK,by simp,by simp,Lev.start _ _ _⟩;cases ready with
    |nil=>(simp+decide only[go_sem,a02,a00,f4h,a0g,a0h,a2d,a3l]<;>rfl)
    |cons a r=>(simp+decide only[go_sem,a02,a00,c10,a05,a06,a2d,a3l]<;>rfl)
   ·rintro n F H ⟨aD,left,ready,done,rfl,rfl,rfl,hK,bW,dO,hV⟩
    have aF:ready≠[]:=by
     rintro rfl
     have ry:done=0:=by have:=hK.dle;simpa using this
     subst ry;have h1:c.nodes.length≤0:=hK.all h.acyc;have h2:=h.pos;omega
    have iJ:=hK.bound;have gO:=hK.dle;have dj:ready.map a0a≠[]:=by simpa using aF
    rw[b46 3 dj,b47 1 dj,f4j];have sE:=wI1 (n:=done) (by omega);have aQ:=hK.ll;by_cases ah:done<ready.length
    ·obtain⟨x,hx⟩:∃x,ready[done]?=some x:=⟨_,z9e ah⟩
     have pq:=hK.rn x (c11 hx);have c1:(done:Int)<ready.length:=by omega
     obtain⟨L,hL⟩:∃L,fo[x]?=some L:=⟨_,z9e (by rw[fW.len];exact pq)⟩
     have vE:=fW.node hL (f6l _);have wC:=fW.total hL hn (λy hy=>h.insl hy);have pg:∀a,a<c.nodes.length→cnt L a=(a15 c.nodes a).count x:=λa ha=>by rw[fW.num x L hL a,f6e ha]
     have hg:=e4o hL pq;cases hLL:L with
     |nil=>
      subst hLL;simp only[f4h,slF]at hg
      (repeat first|simp only[ww]|(apply xa;simp+decide only[go_sem,c1,ah,hx,sE,hg];rfl;kernel_rfl))
      refine a1j (c.nodes.length-(done+1)) (by omega) ⟨_,_,?_,aD,left,ready,done+1,rfl,rfl,rfl,hK.next hx pg,bW,λv hv=>by have:=dO v hv;omega,hV.next hx pg⟩;rw[b46 3 dj,b47 1 dj]
      (simp+decide only[go_sem,a02,a00,a2d,a3l]<;>rfl)
     |cons l0 lr=>
      rw[hLL]at hg;simp only[c10,slF]at hg;rw[←c10,←hLL]at hg;have wD:L.length≠0:=by rw[hLL];simp
      have vF:¬(L.length:Int)=0:=by omega
      have mO:(L.map a9x).length=L.length:=f4j ..
      (repeat first|simp only[ww]|(apply xa;simp+decide only[go_sem,c1,ah,hx,sE,hg,vF,mO];rfl;kernel_rfl))
      refine a4l kp48_4 (JL4 c fo done x L) (L.length-0) ?_ ?_
      ·refine⟨_,_,?_,aD,left,ready,0,rfl,f4m _,rfl,rfl,by rw[f6b];exact hK,hx,bW,λv hv=>by have:=dO v hv;omega,by rw[f6b];exact hV⟩;rw[b46 3 dj,b47 1 dj]
       (simp+decide only[go_sem,a02,a00,a2d,a3l]<;>rfl)<;>rfl
      ·clear hK iJ gO dj aQ dO bW hx ah c1 aF hV
       rintro n F H ⟨aD,left,ready,q,rfl,hq,rfl,rfl,hK,hx,bW,dO,hV⟩
       have iJ:=hK.bound;have oT:=(c13.1 hx).1;have aF:ready≠[]:=by rintro rfl;simp at oT
       have dj:ready.map a0a≠[]:=by simpa using aF
       rw[b46 3 dj,b47 1 dj,f4j];have aQ:=hK.ll;have lW:=wI1 (n:=q) (by omega);by_cases eQ:q<L.length
       ·obtain⟨l,hl⟩:∃l,L[q]?=some l:=⟨_,z9e eQ⟩
        obtain⟨a,p⟩:=l;have j5:a<c.nodes.length:=vE (a,p) (c11 hl);obtain⟨y,hy⟩:∃y,c.nodes[a]?=some y:=⟨_,z9e j5⟩
        have c2:(q:Int)<L.length:=by omega
        have k14:=h.kind y (c11 hy);have dz:=λH=>b7a (d:=false) H y.kind (by omega);have ht:=a0v hl;have m9:(L.map a9x)[q]?=some [.int .i64 a,.int .i64 p]:=by rw[f4q,hl];rfl
        by_cases dG:a1o y.kind=true
        ·have mq:a1o (a0e c.nodes a)=true:=by rw[a0y hy];exact dG
         have kQ:Pc.cnt (L.take q++[(a,p)]) a≤c23 c.nodes ready done a:=by refine g1v ?_ (e3d hK.nd hx);rw[←pg a j5,←ht];unfold Pc.cnt;exact List.Sublist.count_le _ ((List.take_sublist _ _).map _)
         have kB:=hK.pos j5 mq kQ;have jL:a∉ready:=λhm=>by have:=(hK.zero a j5).1 hm;omega
         have nh:=hK.dec j5 mq kQ;rw[←ht]at nh;obtain⟨va,je⟩:∃v,aD[a]?=some v:=⟨_,z9e (by omega)⟩
         obtain⟨vx,kc⟩:∃v,aD[x]?=some v:=⟨_,z9e (by omega)⟩
         obtain⟨w,hw⟩:∃v,left[a]?=some v:=⟨_,z9e (by omega)⟩
         have sF:left.getD a 0=w:=by rw[List.getD,hw];rfl
         rw[sF]at kB nh;have bx:=dO vx (c11 kc);have ba:=dO va (c11 je);have pv:=wI1 (n:=vx) (by omega);have fE:IntKind.i64.wrap ((w:Int)-1)=((w-1:Nat):Int):=by
          have ld:w≤100000:=by have h1:=hK.eq a j5 mq;rw[sF]at h1;have h2:c23 c.nodes ready done a≤(a15 c.nodes a).length:=f9x _ _;rw[a1c hy]at h2;have h3:=h.insl (c11 hy);omega
          rw[w64 (by omega) (by omega)];omega
         have lx:d9y (.int .i64 va) [.int .i64 ((vx+1:Nat):Int)]=some (.int .i64 ((max va (vx+1):Nat):Int)):=d9x _ _;have sM:(aD.map a0a).set a [AV.int .i64 ((max va (vx+1):Nat):Int)]=(aD.set a (max va (vx+1))).map a0a:=by rw[f9n];rfl
         have sN:(left.map a0a).set a [AV.int .i64 ((w-1:Nat):Int)]=(left.set a (w-1)).map a0a:=by rw[f9n];rfl
         have td:(left.set a (w-1))[a]?=some (w-1):=by rw[f6k];simp;omega
         have aG:(left.set a (w-1)).length=c.nodes.length:=by rw[f6j];exact aQ
         have pA:(aD.set a (max va (vx+1))).length=c.nodes.length:=by rw[f6j];exact bW
         have ox:∀v∈aD.set a (max va (vx+1)),v≤300*done+(q+1):=by
          intro v hv;rcases g0u hv with hv|rfl
          ·have:=dO v hv;omega
          ·omega
         have tm:done<c.nodes.length:=by omega
         have vm:a<left.length:=by omega
         have mW:x<aD.length:=by omega
         by_cases hz:w-1=0
         ·rw[f6e hz]at nh;have e5:decide (((w-1:Nat):Int)=0)=true:=f8b (by omega);have jE:ready.length+1≤1000000000:=by omega
          have gW:(ready++[a])[done]?=some x:=by rw[f6d oT];exact hx
          (repeat first|simp only[ww]|(apply xa;simp+decide only[go_sem,c2,eQ,m9,hy,dz,dG,lW,j5,je,kc,hw,bW,aQ,pq,pv,fE,lx,sM,sN,td,aG,pA,e5,jE];rfl;kernel_rfl))
          refine a1j (L.length-(q+1)) (by omega) ⟨_,_,?_,aD.set a (max va (vx+1)),left.set a (w-1),ready++[a],q+1,rfl,eQ,rfl,rfl,nh,gW,pA,ox,by rw[ht];exact hV.dec hx jL je kc (.inr rfl)⟩
          (simp+decide only[go_sem,a02,a00,c7q,d8m,a2d,a3l]<;>rfl)<;>rfl
         ·rw[f4n hz]at nh;have e5:¬((w-1:Nat):Int)=0:=by omega
          (repeat first|simp only[ww]|(apply xa;simp+decide only[go_sem,c2,eQ,m9,hy,dz,dG,lW,j5,je,kc,hw,bW,aQ,pq,pv,fE,lx,sM,sN,td,aG,pA,e5];rfl;kernel_rfl))
          refine a1j (L.length-(q+1)) (by omega) ⟨_,_,?_,aD.set a (max va (vx+1)),left.set a (w-1),ready,q+1,rfl,eQ,rfl,rfl,nh,hx,pA,ox,by rw[ht];exact hV.dec hx jL je kc (.inl rfl)⟩;rw[b46 3 dj,b47 1 dj]
          (simp+decide only[go_sem,a02,a00,a2d,a3l]<;>rfl)<;>rfl
        ·have dG:a1o y.kind=false:=by simpa using dG
         (repeat first|simp only[ww]|(apply xa;simp+decide only[go_sem,c2,eQ,m9,hy,dz,dG,lW,j5];rfl;kernel_rfl))
         refine a1j (L.length-(q+1)) (by omega) ⟨_,_,?_,aD,left,ready,q+1,rfl,eQ,rfl,rfl,by rw[ht];exact hK.skip (by rw[a0y hy];exact dG),hx,bW,λv hv=>by have:=dO v hv;omega,by rw[ht];exact hV.skip (by rw[a0y hy];exact dG)⟩;rw[b46 3 dj,b47 1 dj]
         (simp+decide only[go_sem,a02,a00,a2d,a3l]<;>rfl)<;>rfl
       ·obtain rfl:q=L.length:=by omega
        have c2:¬(L.length:Int)<L.length:=by omega
        rw[f6i]at hK hV
        (repeat first|simp only[ww]|(apply xa;simp+decide only[go_sem,c2];rfl;kernel_rfl))
        refine a1j (c.nodes.length-(done+1)) (by omega) ⟨_,_,?_,aD,left,ready,done+1,rfl,rfl,rfl,hK.next hx pg,bW,λv hv=>by have:=dO v hv;omega,hV.next hx pg⟩;rw[b46 3 dj,b47 1 dj]
        (simp+decide only[go_sem,a02,a00,a2d,a3l]<;>rfl)<;>rfl
    ·obtain rfl:done=ready.length:=by omega
     have c1:¬(ready.length:Int)<ready.length:=by omega
     have bd:=hK.all h.acyc;have c2:¬(ready.length:Int)<c.nodes.length:=by omega
     (repeat first|simp only[ww]|(apply xa;simp+decide only[go_sem,c1,c2];rfl;kernel_rfl))
     refine a5l (vs:=[.slice 1 0 c.nodes.length (some c.nodes.length),.int .i64 0]) (r:=(_,[])) (by simp+decide only[go_sem]) ?_ ⟨aD,bW,λv hv=>by have:=dO v hv;omega,hV.all hK bd,rfl⟩;show a1f false 0 (.tuple [.slice 1 0 c.nodes.length (some c.nodes.length),.int .i64 0]) _=_;rw[←bW];simp+decide only[go_sem,d8q]
theorem b6d(c:Cir)(h:c.wf):∃lv:List Nat,lv.length=c.nodes.length∧(∀v∈lv,v≤100000)∧Rises c.nodes lv∧∀(d:Bool) (H:a03),a0b L.env d (sem L.env Mf) (.func (.func 48) [] []) [.agg c.enc] H=some (.tuple [.islice (lv.map a0a) (some c.nodes.length),.int .i64 0],H,[]):=by obtain⟨r,⟨lv,h1,h2,hR,rfl⟩,h3⟩:=d35 c h;exact⟨lv,h1,h2,hR,λd H=>a04 (by kernel_rfl) (by kernel_rfl) rfl (a5c c) h3 rfl⟩
theorem d2o(c:Cir)(h:c.wf):sem L.env Mf 66 [.agg c.enc] []=some (.int .i64 0,[]):=by
 obtain⟨lv,_,_,_,hc⟩:=b6d c h;have hc:=hc false;simp only[Cir.enc]at hc⊢
 (refine sv Tryz.f66 ?_;simp only[Tryz.f66,gS])
 (repeat first|simp only[ww]|(apply xa;simp+decide only[go_sem,hc];rfl;kernel_rfl))
 (apply fqb;simp+decide only[go_sem]<;>rfl)
theorem b61{d:Bool}(H:a03)(c:Cir)(h:c.wf):a0b L.env d (sem L.env Mf) (.func (.func 66) [] []) [.agg c.enc] H=some (.int .i64 0,H,[]):=a04 (by kernel_rfl) (by kernel_rfl) rfl (a5c c) (d2o c h) rfl
theorem d85(i:Int):sem L.env Mf 96 [.int .i64 i] []=some (.bool false,[]):=by
 (refine sv Tryz.f96 ?_;simp only[Tryz.f96,gS])
 (repeat first|simp only[ww]|(apply xa;simp+decide only[go_sem];rfl;kernel_rfl))
 (apply fqb;simp+decide only[go_sem]<;>rfl)
theorem c9o{d:Bool}(H:a03)(i:Int):a0b L.env d (sem L.env Mf) (.func (.func 96) [] []) [.int .i64 i] H=some (.bool false,H,[]):=a04 (by kernel_rfl) (by kernel_rfl) rfl rfl (d85 i) rfl
theorem d0e(a b:Nat):sem L.env Mf 51 [.int .i64 a,.int .i64 b] []=some (.int .i64 (e1k a b),[]):=by
 have hn:=λH i=>c9o (d:=false) H i;unfold e1k;by_cases h1:a<b
 ·have c1:(a:Int)<b:=by omega
  rw[f6e h1]
  (refine sv Tryz.f51 ?_;simp only[Tryz.f51,gS])
  (repeat first|simp only[ww]|(apply xa;simp+decide only[go_sem,hn,c1];rfl;kernel_rfl))
  (apply fqb;simp+decide only[go_sem]<;>rfl)
 have c1:¬(a:Int)<b:=by omega
 rw[f4n h1];by_cases h2:b<a
 ·have c2:(b:Int)<a:=by omega
  rw[f6e h2]
  (refine sv Tryz.f51 ?_;simp only[Tryz.f51,gS])
  (repeat first|simp only[ww]|(apply xa;simp+decide only[go_sem,hn,c1,c2];rfl;kernel_rfl))
  (apply fqb;simp+decide only[go_sem]<;>rfl)
 ·have c2:¬(b:Int)<a:=by omega
  rw[f4n h2]
  (refine sv Tryz.f51 ?_;simp only[Tryz.f51,gS])
  (repeat first|simp only[ww]|(apply xa;simp+decide only[go_sem,hn,c1,c2];rfl;kernel_rfl))
  (apply fqb;simp+decide only[go_sem]<;>rfl)
theorem c48{d:Bool}(H:a03)(a b:Nat):a0b L.env d (sem L.env Mf) (.func (.func 51) [] []) [.int .i64 a,.int .i64 b] H=some (.int .i64 (e1k a b),H,[]):=a04 (by kernel_rfl) (by kernel_rfl) rfl rfl (d0e a b) rfl
def lvO(lv:List Nat):AObj:=.row 1 [[.islice (lv.map a0a) (some lv.length)]]
attribute [go_sem] lvO
theorem a5g(lv:List Nat):FlatR [[AV.islice (lv.map a0a) (some lv.length)]]:=FlatR.cons rfl FlatR.nil
theorem d2f(lv:List Nat)(x y vx vy:Nat)(hx:lv[x]?=some vx)(hy:lv[y]?=some vy):sem L.env Mf 50 [.int .i64 x,.int .i64 y,.ptr 0 0 0] [some (lvO lv)]=some (.int .i64 (e1k vx vy),[some (lvO lv)]):=by
 have hc:=λH=>c48 (d:=true) H vx vy;have h1:=(c13.1 hx).1;have h2:=(c13.1 hy).1
 (refine sv Tryz.f50 ?_;simp only[Tryz.f50,gS])
 (repeat first|simp only[ww]|(apply xa;simp+decide only[go_sem,hc,hx,hy,h1,h2];rfl;kernel_rfl))
 (apply fqb;simp+decide only[go_sem]<;>rfl)
theorem c5j{d:Bool}{H:a03}{b:Nat}(lv:List Nat)(x y vx vy:Nat)(hx:lv[x]?=some vx)(hy:lv[y]?=some vy)(hb:a01 H b=some (lvO lv)):a0b L.env d (sem L.env Mf) (.func (.func 50) [] [.ptr b 0 0]) [.int .i64 x,.int .i64 y] H=some (.int .i64 (e1k vx vy),H,[b]):=a2e (fs:=[]) (cs:=[.ptr b 0 0]) (ar:=[.int .i64 x,.int .i64 y]) (by kernel_rfl) (by kernel_rfl) rfl hb (a0r (a5g lv)) (FlatO.row (a5g lv)) rfl (au:=[.int .i64 x,.int .i64 y,.ptr 0 0 0]) (by simp[ren,b0m]) (d2f lv x y vx vy hx hy) rfl
def b53:AV:=.func (.func 50) [] [.ptr 1 0 0]
def Srt(lv data:List Nat):Prop:=SortI (λv=>lv.getD v 0) data data.length
def JI0(lv d0:List Nat)(n:Nat)(F:Frm)(H:a03):Prop:=∃(i:Nat) (data:List Nat),n=d0.length-i∧1≤i∧
 F=[(0,.slice 0 0 d0.length (some d0.length)),(1,.int .i64 0),(2,.int .i64 d0.length),(3,b53),(8,.int .i64 i)]∧H=[some (.row 1 (data.map a0a)),some (lvO lv)]∧data.Perm d0∧SortI (λv=>lv.getD v 0) data i
def JI2(lv d0:List Nat)(i:Nat)(n:Nat)(F:Frm)(H:a03):Prop:=∃(j:Nat) (data:List Nat),n=j∧j<d0.length∧
 F=[(0,.slice 0 0 d0.length (some d0.length)),(1,.int .i64 0),(2,.int .i64 d0.length),(3,b53),(8,.int .i64 i),(9,.int .i64 j)]∧H=[some (.row 1 (data.map a0a)),some (lvO lv)]∧data.Perm d0∧j≤i∧SortJ (λv=>lv.getD v 0) data i j
theorem c3j(lv d0:List Nat)(hl:d0.length≤1000)(hd:∀v∈d0,v<lv.length):∃r:AV×a03,(∃data:List Nat,data.Perm d0∧Srt lv data∧r=(.tuple [],[some (.row 1 (data.map a0a)),some (lvO lv)]))∧
 sem L.env Mf 137 [.slice 0 0 d0.length (some d0.length),.int .i64 0,.int .i64 d0.length,b53] [some (.row 1 (d0.map a0a)),some (lvO lv)]=some r:=by
 unfold b53
 (refine svE Tryz.f137 ?_;simp only[Tryz.f137,gS])
 (repeat first|simp only[ww]|(apply xa;simp+decide only[go_sem];rfl;kernel_rfl))
 refine a4l kp137_0 (JI0 lv d0) (d0.length-1) ?_ ?_
 ·refine⟨_,_,?_,1,d0,rfl,f6l _,rfl,rfl,g1n _,SortI.one⟩;unfold b53
  (simp+decide only[go_sem,a02,a00,a2d,a3l]<;>rfl)<;>rfl
 ·rintro n F H ⟨i,data,rfl,q8,rfl,rfl,hp,hS⟩
  unfold b53;have hw:=wI1 (n:=i) ;by_cases ah:i<d0.length
  ·have c1:(i:Int)<d0.length:=by omega
   have hw:=wI1 (n:=i) (by omega)
   (repeat first|simp only[ww]|(apply xa;simp+decide only[go_sem,c1];rfl;kernel_rfl))
   refine a4l kp137_2 (JI2 lv d0 i) i ?_ ?_
   ·refine⟨_,_,?_,i,data,rfl,ah,rfl,rfl,hp,f6l _,hS.start⟩;unfold b53
    (simp+decide only[go_sem,a02,a00,a2d,a3l]<;>rfl)<;>rfl
   ·rintro n F H ⟨j,data,rfl,hj,rfl,rfl,hp,iC,hS⟩
    unfold b53;have ai:=hp.length_eq;cases n with
    |zero=>
     (repeat first|simp only[ww]|(apply xa;simp+decide only[go_sem];rfl;kernel_rfl))
     refine a1j (d0.length-(i+1)) (by omega) ⟨_,_,?_,i+1,data,rfl,by omega,rfl,rfl,hp,hS.stop (.inl rfl)⟩;unfold b53
     (simp+decide only[go_sem,a02,a00,a2d,a3l,hw]<;>rfl)<;>rfl
    |succ j=>
     obtain⟨x,hx⟩:∃x,data[j+1]?=some x:=⟨_,z9e (by omega)⟩
     obtain⟨y,hy⟩:∃y,data[j]?=some y:=⟨_,z9e (by omega)⟩
     obtain⟨vx,kc⟩:∃v,lv[x]?=some v:=⟨_,z9e (hd x (hp.mem_iff.1 (c11 hx)))⟩
     obtain⟨vy,sG⟩:∃v,lv[y]?=some v:=⟨_,z9e (hd y (hp.mem_iff.1 (c11 hy)))⟩
     have c0:(0:Int)<((j+1:Nat):Int):=by omega
     have gr:j<d0.length:=by omega
     have fw:j+1<data.length:=by omega
     have lF:j<data.length:=by omega
     have aV:IntKind.i64.wrap (((j+1:Nat):Int)-1)=(j:Int):=by rw[w64 (by omega) (by omega)];omega
     have ak:=c5j (d:=true) (H:=[some (.row 1 (data.map a0a)),some (lvO lv)]) (b:=1) lv x y vx vy kc sG rfl;simp only[lvO]at ak;have kx:lv.getD x 0=vx:=by rw[List.getD,kc];rfl
     have ky:lv.getD y 0=vy:=by rw[List.getD,sG];rfl
     by_cases ie:e1k vx vy<0
     ·have jg:(((data.map a0a).set (j+1) [AV.int .i64 y]).set j [AV.int .i64 x])=((data.set (j+1) y).set j x).map a0a:=by rw[f9n,f9n];rfl
      have ng:((data.map a0a).set (j+1) [AV.int .i64 y])[j]?=some [AV.int .i64 y]:=by rw[List.getElem?_set_ne (by omega),f4q,hy];rfl
      (repeat first|simp only[ww]|(apply xa;simp+decide only[go_sem,c0,hj,gr,fw,lF,hx,hy,aV,ak,ie,ai,f6j,jg,ng];rfl;kernel_rfl))
      refine a1j j (by omega) ⟨_,_,?_,j,_,rfl,gr,rfl,rfl,(d1e hx hy).trans hp,by omega,hS.swap iC hy hx (by show lv.getD x 0<lv.getD y 0;rw[kx,ky];unfold e1k at ie;split at ie<;>first|assumption|(exfalso;split at ie<;>omega))⟩;unfold b53
      (simp+decide only[go_sem,a02,a00,a2d,a3l,jg]<;>rfl)<;>rfl
     ·(repeat first|simp only[ww]|(apply xa;simp+decide only[go_sem,c0,hj,gr,fw,lF,hx,hy,aV,ak,ie,ai];rfl;kernel_rfl))
      refine a1j (d0.length-(i+1)) (by omega) ⟨_,_,?_,i+1,data,rfl,by omega,rfl,rfl,hp,hS.stop (.inr ⟨y,x,hy,hx,by show lv.getD y 0≤lv.getD x 0;rw[kx,ky];unfold e1k at ie;split at ie<;>omega⟩)⟩;unfold b53
      (simp+decide only[go_sem,a02,a00,a2d,a3l,hw]<;>rfl)<;>rfl
  ·have c1:¬(i:Int)<d0.length:=by omega
   (repeat first|simp only[ww]|(apply xa;simp+decide only[go_sem,c1];rfl;kernel_rfl))
   refine c3w (vs:=[]) (r:=(_,[_,_])) (by simp+decide only[go_sem]) ?_ ⟨data,hp,λp q x y h1 h2=>hS p q x y h1 (by have:=hp.length_eq;omega),rfl⟩;simp+decide only[go_sem,a3l]<;>rfl
def d6s(b:Nat):AV:=.func (.func 50) [] [.ptr b 0 0]
theorem a3s(l:List Nat):FlatR (l.map a0a):=FlatR.map λ_=>rfl
theorem b80(lv d0:List Nat)(hl:d0.length≤1000)(hd:∀v∈d0,v<lv.length):∃data:List Nat,data.Perm d0∧Srt lv data∧
 a0b L.env false (sem L.env Mf) (.func (.func 137) [] []) [.slice 0 0 d0.length (some d0.length),.int .i64 0,.int .i64 d0.length,b53] [some (.row 1 (d0.map a0a)),some (lvO lv)]=some (.tuple [],[some (.row 1 (data.map a0a)),some (lvO lv)],[0,1]):=by
 obtain⟨r,⟨data,hp,hS,rfl⟩,h⟩:=c3j lv d0 hl hd;refine⟨data,hp,hS,?_⟩;exact b7f (a:=0) (b:=1) (fs:=[]) (cs:=[]) (ar:=[.slice 0 0 d0.length (some d0.length),.int .i64 0,.int .i64 d0.length,b53]) (H:=[some (.row 1 (d0.map a0a)),some (lvO lv)]) (by kernel_rfl) (by kernel_rfl) rfl (by decide) rfl rfl (a0r (a3s d0)) (a0r (a5g lv)) (FlatO.row (a3s d0)) (FlatO.row (a5g lv)) rfl rfl h (FlatO.row (a3s data)) (FlatO.row (a5g lv)) rfl
theorem d1p(lv d0:List Nat)(hl:d0.length≤19)(hd:∀v∈d0,v<lv.length):∃r:AV×a03,(∃data:List Nat,data.Perm d0∧Srt lv data∧r=(.tuple [],[some (.row 1 (data.map a0a)),some (lvO lv)]))∧
 sem L.env Mf 95 [.slice 0 0 d0.length (some d0.length),.int .i64 d0.length,b53] [some (.row 1 (d0.map a0a)),some (lvO lv)]=some r:=by
 obtain⟨data,hp,hS,hc⟩:=b80 lv d0 (by omega) hd;have c1:¬(20:Int)≤d0.length:=by omega
 have c2:¬(20:Int)<d0.length:=by omega
 unfold b53 at hc⊢;simp only[lvO]at hc⊢
 (refine svE Tryz.f95 ?_;simp only[Tryz.f95,gS])
 (repeat first|simp only[ww]|(apply xa;simp+decide only[go_sem,c1];rfl;kernel_rfl))
 refine a0q (σ:=Nat) kp95_0 (λi=>[(0,.slice 0 0 d0.length (some d0.length)),(1,.int .i64 d0.length),(2,b53),(6,.int .i64 20),(7,.int .i64 0),(8,.int .i64 20)])
  (λi=>[some (.row 1 (d0.map a0a)),some (.row 1 [[.islice (lv.map a0a) (some lv.length)]])]) (λi=>0) (λi=>True) 0 ?_ trivial ?_
 ·unfold b53
  (simp+decide only[go_sem,a02,a00,a2d,a3l]<;>rfl)<;>rfl
 ·intro i _;unfold b53
  (repeat first|simp only[ww]|(apply xa;simp+decide only[go_sem,c1,hc];rfl;kernel_rfl))
  refine a0q (σ:=Nat) kp95_2 (λi=>[(0,.slice 0 0 d0.length (some d0.length)),(1,.int .i64 d0.length),(2,b53),(6,.int .i64 20)])
   (λi=>[some (.row 1 (data.map a0a)),some (.row 1 [[.islice (lv.map a0a) (some lv.length)]])]) (λi=>0) (λi=>True) 0 ?_ trivial ?_
  ·unfold b53
   (simp+decide only[go_sem,a02,a00,a2d,a3l]<;>rfl)<;>rfl
  ·intro i _;unfold b53
   (repeat first|simp only[ww]|(apply xa;simp+decide only[go_sem,c2];rfl;kernel_rfl))
   refine c3w (vs:=[]) (r:=(_,[_,_])) (by simp+decide only[go_sem]) ?_ ⟨data,hp,hS,rfl⟩;simp+decide only[go_sem,a3l]<;>rfl
theorem c03(lv d0:List Nat)(hl:d0.length≤19)(hd:∀v∈d0,v<lv.length):∃r:AV×a03,(∃data:List Nat,data.Perm d0∧Srt lv data∧r=(.tuple [],[some (.row 1 (data.map a0a)),some (lvO lv)]))∧
 sem L.env Mf 49 [.slice 0 0 d0.length (some d0.length),b53] [some (.row 1 (d0.map a0a)),some (lvO lv)]=some r:=by
 obtain⟨r,⟨data,hp,hS,rfl⟩,h⟩:=d1p lv d0 hl hd;have hc:=b7f (E:=L.env) (ag:=false) (call:=sem L.env Mf) (g:=95) (a:=0) (b:=1) (fs:=[]) (cs:=[]) (ar:=[.slice 0 0 d0.length (some d0.length),.int .i64 d0.length,b53]) (H:=[some (.row 1 (d0.map a0a)),some (lvO lv)]) (v':=.tuple []) (by kernel_rfl) (by kernel_rfl) rfl (by decide) rfl rfl (a0r (a3s d0)) (a0r (a5g lv)) (FlatO.row (a3s d0)) (FlatO.row (a5g lv)) rfl rfl h (FlatO.row (a3s data)) (FlatO.row (a5g lv)) rfl;unfold b53 at hc⊢;simp only[lvO]at hc⊢
 (refine svE Tryz.f49 ?_;simp only[Tryz.f49,gS])
 (repeat first|simp only[ww]|(apply xa;simp+decide only[go_sem,hc];rfl;kernel_rfl))
 refine c3w (vs:=[]) (r:=(_,[_,_])) (by simp+decide only[go_sem]) ?_ ⟨data,hp,hS,rfl⟩;simp+decide only[go_sem,a3l]<;>rfl
theorem b5d(lv d0:List Nat)(hl:d0.length≤19)(hd:∀v∈d0,v<lv.length):∃data:List Nat,data.Perm d0∧Srt lv data∧∀(d:Bool) (H:a03) (a b:Nat),a≠b→a01 H a=some (.row 1 (d0.map a0a))→a01 H b=some (lvO lv)→
 a0b L.env d (sem L.env Mf) (.func (.func 49) [] []) [.slice a 0 d0.length (some d0.length),d6s b] H=some (.tuple [],(H.set a (some (.row 1 (data.map a0a)))).set b (some (lvO lv)),[a,b]):=by
 obtain⟨r,⟨data,hp,hS,rfl⟩,h⟩:=c03 lv d0 hl hd;refine⟨data,hp,hS,λd H a b bu ha hb=>?_⟩;exact b7f (a:=a) (b:=b) (fs:=[]) (cs:=[]) (ar:=[.slice a 0 d0.length (some d0.length),d6s b]) (H:=H) (by kernel_rfl) (by kernel_rfl) rfl bu ha hb (a0r (a3s d0)) (a0r (a5g lv)) (FlatO.row (a3s d0)) (FlatO.row (a5g lv)) rfl
  (by simp only[e14,f4g,c10,f4h,c5f,d6s,d70,d1y bu];rfl) h (FlatO.row (a3s data)) (FlatO.row (a5g lv)) rfl
theorem d79(c:Cir)(h:c.wf):∃r:AV×a03,(∃ord:List Nat,ord.Perm (List.range c.nodes.length)∧e1w c.nodes ord∧r=(.tuple [.islice (ord.map a0a) (some c.nodes.length),.int .i64 0],[]))∧sem L.env Mf 21 [.agg c.enc] []=some r:=by
 have hn:=h.len;obtain⟨lv,mn,wm,hR,hc⟩:=b6d c h;have hc:=hc false;have aE:c.nodes.length≤1000000000:=by omega
 obtain⟨data,hp,hS,hs⟩:=b5d lv (List.range c.nodes.length) (by simp;omega) (λv hv=>by rw[mn];simpa using hv);have gO:data.length=c.nodes.length:=by rw[hp.length_eq];simp
 rw[f8g]at hs;simp only[Cir.enc]at hc⊢
 (refine svE Tryz.f21 ?_;simp only[Tryz.f21,gS])
 (repeat first|simp only[ww]|(apply xa;simp+decide only[go_sem,hc,aE];rfl;kernel_rfl))
 refine a0q (σ:=Nat) kp21_0 (λi=>[(4,.ptr 0 0 0),(6,.slice 1 0 c.nodes.length (some c.nodes.length)),(21,.int .i64 c.nodes.length),(22,.int .i64 i)])
  (λi=>[some (lvO lv),some (.row 1 ((List.range i++List.replicate (c.nodes.length-i) 0).map a0a))]) (λi=>c.nodes.length-i) (λi=>i≤c.nodes.length) 0 ?_ (f4m _) ?_
 ·rw[lvO,mn]
  (simp+decide only[go_sem,a02,a00,f7y,a2d,a3l,List.range_zero,e14,Nat.sub_zero]<;>rfl)<;>rfl
 ·intro i hi;rw[lvO];by_cases ah:i<c.nodes.length
  ·have c1:(i:Int)<c.nodes.length:=by omega
   have hw:=wI1 (n:=i) (by omega);have kh:(List.range i++List.replicate (c.nodes.length-i) 0).length=c.nodes.length:=by simp;omega
   have hg:(List.range i++List.replicate (c.nodes.length-i) 0)[i]?=some 0:=by rw[f8k (by simp),f8g,Nat.sub_self,g0r,f6e (by omega)]
   have az:((List.range i++List.replicate (c.nodes.length-i) 0).map a0a).set i [AV.int .i64 i]=(List.range (i+1)++List.replicate (c.nodes.length-(i+1)) 0).map a0a:=by
    have e:c.nodes.length-i=(c.nodes.length-(i+1))+1:=by omega
    rw[e,g0l];rw[show [AV.int IntKind.i64 (i:Int)]=a0a i from rfl,←f9n,List.set_append_right _ _ (by simp),f9k,f4i];simp
   generalize hA:(List.range i++List.replicate (c.nodes.length-i) 0)=A at kh hg az
   (repeat first|simp only[ww]|(apply xa;simp+decide only[go_sem,c1,ah,hw,kh,hg,az];rfl;kernel_rfl))
   refine a21 (i+1) ?_ (by omega) (by omega)
   (simp+decide only[go_sem,a02,a00,a2d,a3l]<;>rfl)<;>rfl
  ·obtain rfl:i=c.nodes.length:=by omega
   have c1:¬(c.nodes.length:Int)<c.nodes.length:=by omega
   rw[Nat.sub_self,List.replicate_zero,f4g];have iU:=hs false [some (lvO lv),some (.row 1 ((List.range c.nodes.length).map a0a))] 1 0 (by decide) rfl rfl;simp only[lvO,d6s]at iU
   (repeat first|simp only[ww]|(apply xa;simp+decide only[go_sem,c1,iU];rfl;kernel_rfl))
   refine a5l (vs:=[.slice 1 0 c.nodes.length (some c.nodes.length),.int .i64 0]) (r:=(_,[])) (by simp+decide only[go_sem]) ?_ ⟨data,hp,hR.topo hp hS.pairwise h.inAt,rfl⟩;show a1f false 0 (.tuple [.slice 1 0 c.nodes.length (some c.nodes.length),.int .i64 0]) _=_;rw[←gO];simp+decide only[go_sem,d8q]
theorem c9d(c:Cir)(h:c.wf):∃ord:List Nat,ord.Perm (List.range c.nodes.length)∧e1w c.nodes ord∧∀(d:Bool) (H:a03),a0b L.env d (sem L.env Mf) (.func (.func 21) [] []) [.agg c.enc] H=some (.tuple [.islice (ord.map a0a) (some c.nodes.length),.int .i64 0],H,[]):=by obtain⟨r,⟨ord,h1,h2,rfl⟩,h3⟩:=d79 c h;exact⟨ord,h1,h2,λd H=>a04 (by kernel_rfl) (by kernel_rfl) rfl (a5c c) h3 rfl⟩
theorem d41(c:Cir)(h:c.wf):sem L.env Mf 27 [.agg c.enc] []=some (.int .i64 0,[]):=by
 have hc:=λH=>b61 (d:=false) H c h;simp only[Cir.enc]at hc⊢
 (refine sv Tryz.f27 ?_;simp only[Tryz.f27,gS])
 (repeat first|simp only[ww]|(apply xa;simp+decide only[go_sem,hc];rfl;kernel_rfl))
 (apply fqb;simp+decide only[go_sem]<;>rfl)
theorem b17{d:Bool}(H:a03)(c:Cir)(h:c.wf):a0b L.env d (sem L.env Mf) (.func (.func 27) [] []) [.agg c.enc] H=some (.int .i64 0,H,[]):=a04 (by kernel_rfl) (by kernel_rfl) rfl (a5c c) (d41 c h) rfl
theorem d8s(c:Cir)(h:c.wf)(n:Nat)(p:Int)(hn:n<c.nodes.length)(hp:-1≤p)(dW:p<(a15 c.nodes n).length):sem L.env Mf 113 [.agg c.enc,.agg [.int .i64 n,.int .i64 p]] []=some (.bool true,[]):=by
 obtain⟨x,hx⟩:∃x,c.nodes[n]?=some x:=⟨_,z9e hn⟩
 rw[a1c hx]at dW;have c1:0≤(n:Int):=by omega
 have c2:(n:Int)<c.nodes.length:=by omega
 simp only[Cir.enc]
 (refine sv Tryz.f113 ?_;simp only[Tryz.f113,gS])
 (repeat first|simp only[ww]|(apply xa;simp+decide only[go_sem,c1,c2,hn,hp,dW,hx];rfl;kernel_rfl))
 (apply fqb;simp+decide only[go_sem]<;>rfl)
theorem c9x{d:Bool}(H:a03)(c:Cir)(h:c.wf)(n:Nat)(p:Int)(hn:n<c.nodes.length)(hp:-1≤p)(dW:p<(a15 c.nodes n).length):a0b L.env d (sem L.env Mf) (.func (.func 113) [] []) [.agg c.enc,.agg [.int .i64 n,.int .i64 p]] H=some (.bool true,H,[]):=a04 (by kernel_rfl) (by kernel_rfl) rfl (by simp only[a07,a11,Cir.enc,go_sem]) (d8s c h n p hn hp dW) rfl
/- dependence, by the statements -/
def b3s(b:Bool):List AV:=[.bool b]
attribute [go_sem] b3s
theorem b24(l:List Bool):(l.map b3s).flatMap a0l=[]:=a0f (FlatR.map λ_=>rfl)
theorem c0e(π:Nat→Option Nat)(l:List Bool):(l.map b3s).map (λr=>r.map (ren π))=l.map b3s:=a0c π (FlatR.map λ_=>rfl)
theorem f5v{m:Nat}{d:AV→Option AV}(l:List Bool):a9g m d (l.map b3s)=some (l.map b3s):=a12 m d (FlatR.map λ_=>rfl)
theorem c42{l:List Bool}{m:Nat}(h:l[m]?=some false):(l.set m true).count false+1=l.count false:=by
 induction l generalizing m with
 |nil=>simp at h
 |cons a l ih=>
  cases m with
  |zero=>simp only[f6n,Option.some.injEq]at h;subst h;simp
  |succ m=>simp only[f8h]at h;simp only[List.set_cons_succ,List.count_cons];have:=ih h;omega
structure Cone(c:Cir)(a:Nat)(inn:List Bool)(T:List Nat)(J:List (List AV))(cap:Option Nat):Prop where
 len:inn.length=c.nodes.length
 mark:∀b:Nat,inn[b]?=some true→DepOn c.nodes a b
 todo:∀t∈T,t<c.nodes.length∧DepOn c.nodes a t
 flat:FlatR J
 cap:cap=none∨(cap=some 1∧T.length+J.length=1)
def cnH(c:Cir)(inn:List Bool)(T:List Nat)(J:List (List AV)):a03:=[some (.row 4 [[sl c.nc (c.nodes.map Nd.enc),sl c.mc (c.names.map a13),.nilslice,sl c.oc (c.outs.map a0a)]]),some (.row 1 (inn.map b3s)),some (.row 1 (T.map a0a++J))]
def JC0(c:Cir)(a:Nat)(n:Nat)(F:Frm)(H:a03):Prop:=∃inn T J cap,n=inn.count false+T.length∧n≤c.nodes.length∧F=[(2,.ptr 0 0 0),(5,.slice 1 0 c.nodes.length (some c.nodes.length)),(6,.slice 2 0 T.length cap)]∧H=cnH c inn T J∧Cone c a inn T J cap
def JC2(c:Cir)(a:Nat)(x:Nd)(N n:Nat)(F:Frm)(H:a03):Prop:=∃inn T J cap k,n=x.ins.length-k∧k≤x.ins.length∧inn.count false+T.length<N∧N≤c.nodes.length∧F=[(2,.ptr 0 0 0),(5,.slice 1 0 c.nodes.length (some c.nodes.length)),(6,.slice 2 0 T.length cap),(45,sl x.c (x.ins.map a0a)),(46,.int .i64 x.ins.length),(47,.int .i64 k)]∧H=cnH c inn T J∧Cone c a inn T J cap
theorem f3y(n:Nat):List.replicate n [AV.bool false]=(List.replicate n false).map b3s:=by rw[List.map_replicate];rfl
theorem e59(c:Cir)(h:c.wf)(a:Nat)(ha:a<c.nodes.length):∃r:AV×a03,(∃l:List Bool,l.length=c.nodes.length∧(∀b:Nat,l[b]?=some true→DepOn c.nodes a b)∧r=(.islice (l.map b3s) (some c.nodes.length),[]))∧sem L.env Mf 146 [.agg c.enc,.int .i64 a] []=some r:=by
 have hn:=h.len;have aE:c.nodes.length≤1000000000:=by omega
 have az:(List.replicate c.nodes.length [AV.bool false]).set a [AV.bool true]=((List.replicate c.nodes.length false).set a true).map b3s:=by rw[f3y,f9n];rfl
 have u6:(List.replicate c.nodes.length [AV.bool false])[a]?=some [AV.bool false]:=by rw[g0r,f6e ha]
 have u9:(List.replicate c.nodes.length false)[a]?=some false:=by rw[g0r,f6e ha]
 have j1:((List.replicate c.nodes.length false).set a true).count false+1≤c.nodes.length:=by rw[c42 u9];exact g1v List.count_le_length (by simp)
 simp only[Cir.enc]
 (refine svE Tryz.f146 ?_;simp only[Tryz.f146,gS])
 (repeat first|simp only[ww]|(apply xa;simp+decide only[go_sem,aE,ha,u6];rfl;kernel_rfl))
 refine a4l kp146_0 (JC0 c a) (((List.replicate c.nodes.length false).set a true).count false+1) ?_ ?_
 ·refine⟨_,_,?_,(List.replicate c.nodes.length false).set a true,[a],[],some 1,rfl,j1,rfl,rfl,⟨by simp,?_,?_,FlatR.nil,.inr ⟨rfl,rfl⟩⟩⟩
  ·rw[cnH]
   (simp+decide only[go_sem,a02,a00,b24,c0e,az]<;>rfl)<;>rfl
  ·intro b hb;rw[f6k]at hb;by_cases bu:a=b
   ·subst bu;exact .refl _
   ·rw[f4n bu,g0r]at hb;split at hb<;>cases hb
  ·intro t ht;simp only[f6f]at ht;subst ht;exact⟨ha,.refl _⟩
 ·rintro N F H ⟨inn,T,J,cap,rfl,hB,rfl,rfl,hC⟩
  rw[cnH];rcases List.eq_nil_or_concat T with rfl|⟨T,t,rfl⟩
  · -- nothing is left
   (repeat first|simp only[ww]|(apply xa;simp+decide only[go_sem];rfl;kernel_rfl))
   refine a5l (vs:=[.slice 1 0 c.nodes.length (some c.nodes.length)]) (r:=(_,[])) (by simp+decide only[go_sem]) ?_ ⟨inn,hC.len,hC.mark,rfl⟩;show a1f false 0 (.slice 1 0 c.nodes.length (some c.nodes.length)) _=_;rw[←hC.len];simp+decide only[go_sem,f5v]
  ·simp only[List.concat_eq_append]at hB hC⊢;obtain⟨nZ,eV⟩:=hC.todo t (by simp);obtain⟨x,hx⟩:∃x,c.nodes[t]?=some x:=⟨_,z9e nZ⟩
   have ai:(T++[t]).length=T.length+1:=by simp
   rw[ai]at hB;have c1:(0:Int)<((T.length+1:Nat):Int):=by omega
   have eM:T.length+1≤c.nodes.length:=by omega
   have aV:IntKind.i64.wrap (((T.length+1:Nat):Int)-1)=(T.length:Int):=by rw[w64 (by omega) (by omega)];omega
   have dC:(T++[t]).map a0a++J=T.map a0a++(a0a t::J):=by simp
   have aI:(T.map a0a++(a0a t::J))[T.length]?=some (a0a t):=by rw[f8k (by simp)];simp
   have bC:T.length≤T.length+1:=by omega
   have nt:Cone c a inn T (a0a t::J) cap:=⟨hC.len,hC.mark,λs hs=>hC.todo s (by simp[hs]),FlatR.cons rfl hC.flat,hC.cap.imp id (λ⟨e1,e2⟩=>⟨e1,by rw[ai]at e2;simp;omega⟩)⟩
   have mA:=a0f nt.flat;have me:=λπ=>a0c π nt.flat;rw[dC,ai];generalize hJ':a0a t::J=J' at aI nt mA me;have dK:=c11 hx;have cM:=h.insl dK;have cD:a1s (T.length+1) cap=T.length+1∨a1s (T.length+1) cap=1:=by
    rcases hC.cap with e|⟨e,_⟩<;>rw[e]
    ·exact .inl rfl
    ·exact .inr rfl
   have mz:T.length≤a1s (T.length+1) cap:=by
    rcases hC.cap with e|⟨e,e2⟩
    ·rw[e];show T.length≤T.length+1;omega
    ·rw[e];show T.length≤1;rw[ai]at e2;omega
   by_cases h14:x.kind=14
   ·have c3:decide ((x.kind:Int)=14)=true:=f8b (by omega)
    (repeat first|simp only[ww]|(apply xa;simp+decide only[go_sem,c1,aV,aI,hx,nZ,c3,mz,bC,a3t];rfl;kernel_rfl))
    refine a1j (inn.count false+T.length) (by omega) ⟨_,_,?_,inn,T,J',cap,rfl,by omega,rfl,rfl,nt⟩;rw[cnH]
    (simp+decide only[go_sem,a02,a00,b24,c0e,a2d,a3l,mA,me]<;>rfl)<;>rfl
   have c3:¬(x.kind:Int)=14:=by omega
   (repeat first|simp only[ww]|(apply xa;simp+decide only[go_sem,c1,aV,aI,hx,nZ,c3,mz,bC,a3t];rfl;kernel_rfl))
   refine a4l kp146_2 (JC2 c a x (inn.count false+(T.length+1))) (x.ins.length-0) ?_ ?_
   ·refine⟨_,_,?_,inn,T,J',cap,0,rfl,f4m _,by omega,hB,rfl,rfl,nt⟩;rw[cnH]
    (simp+decide only[go_sem,a02,a00,b24,c0e,a2d,a3l,mA,me]<;>rfl)<;>rfl
   ·generalize inn.count false+(T.length+1)=N at hB⊢;clear nt mA me aI cD mz hC dC aV c1 bC eM ai hJ';clear J' inn cap J
    rintro n F H ⟨inn,T,J,cap,k,rfl,hk,hN,o8,rfl,rfl,hC⟩
    rw[cnH];have mA:=a0f hC.flat;have me:=λπ=>a0c π hC.flat;by_cases dw:k<x.ins.length
    ·obtain⟨m,hm⟩:∃m,x.ins[k]?=some m:=⟨_,z9e dw⟩
     have dY:=h.ins x dK m (c11 hm);have c2:(k:Int)<x.ins.length:=by omega
     have hw:=wI1 (n:=k) (by omega);obtain⟨q,hq⟩:∃q,inn[m]?=some q:=⟨_,z9e (by rw[hC.len];exact dY)⟩
     have jQ:=hC.len;have eR:DepOn c.nodes a m:=eV.snoc (by rw[a0y hx];exact h14) (by rw[a1c hx];exact c11 hm);cases q with
     |true=>
      (repeat first|simp only[ww]|(apply xa;simp+decide only[go_sem,c2,dw,hm,hw,dY,hq,jQ];rfl;kernel_rfl))
      refine a1j (x.ins.length-(k+1)) (by omega) ⟨_,_,?_,inn,T,J,cap,k+1,rfl,dw,hN,o8,rfl,rfl,hC⟩;rw[cnH]
      (simp+decide only[go_sem,a02,a00,b24,c0e,a2d,a3l,mA,me]<;>rfl)<;>rfl
     |false=>
      have az:(inn.map b3s).set m [AV.bool true]=(inn.set m true).map b3s:=by rw[f9n];rfl
      have eJ:=c42 hq;have pQ:T.length+1≤1000000000:=by omega
      have pX:∀J' kZ,FlatR J'→(kZ=none∨(kZ=some 1∧(T++[m]).length+J'.length=1))→Cone c a (inn.set m true) (T++[m]) J' kZ:=by
       intro J' kZ hf a8;refine⟨by rw[f6j];exact hC.len,?_,?_,hf,a8⟩
       ·intro b hb;rw[f6k]at hb;by_cases pE:m=b
        ·subst pE;exact eR
        ·rw[f4n pE]at hb;exact hC.mark b hb
       ·intro s hs;simp only[f8n,f6f]at hs;rcases hs with hs|rfl
        ·exact hC.todo s hs
        ·exact⟨dY,eR⟩
      have nq:(inn.set m true).count false+(T++[m]).length<N:=by simp;omega
      rcases hC.cap with rfl|⟨rfl,h1⟩
      ·cases J with
       |nil=>
        (repeat first|simp only[ww]|(apply xa;simp+decide only[go_sem,c2,dw,hm,hw,dY,hq,jQ,az,pQ,f4g];rfl;kernel_rfl))
        refine a1j (x.ins.length-(k+1)) (by omega) ⟨_,_,?_,inn.set m true,T++[m],[],none,k+1,rfl,dw,nq,o8,rfl,rfl,pX [] none FlatR.nil (.inl rfl)⟩;rw[cnH]
        (simp+decide only[go_sem,a02,a00,b24,c0e,a2d,a3l,az,f4g]<;>rfl)<;>rfl
       |cons j js=>
        have aF:¬(T.length=T.length+(js.length+1)):=by omega
        have fa:T.length≤T.length+(js.length+1):=by omega
        have fj:(T.map a0a++(j::js)).take T.length=T.map a0a:=by rw[List.take_append_of_le_length (by simp)];exact c2c a0a T
        (repeat first|simp only[ww]|(apply xa;simp+decide only[go_sem,c2,dw,hm,hw,dY,hq,jQ,az,pQ,aF,fa,fj,e12];rfl;kernel_rfl))
        refine a1j (x.ins.length-(k+1)) (by omega) ⟨_,_,?_,inn.set m true,T++[m],[],none,k+1,rfl,dw,nq,o8,rfl,rfl,pX [] none FlatR.nil (.inl rfl)⟩;rw[cnH]
        (simp+decide only[go_sem,a02,a00,b24,c0e,a2d,a3l,az,f4g]<;>rfl)<;>rfl
      ·cases T with
       |nil=>
        obtain⟨j,rfl⟩:∃j,J=[j]:=by
         cases J with
         |nil=>simp at h1
         |cons j js=>cases js with
          |nil=>exact⟨j,rfl⟩
          |cons=>simp only[e12,f4o]at h1;omega
        (repeat first|simp only[ww]|(apply xa;simp+decide only[go_sem,c2,dw,hm,hw,dY,hq,jQ,az,pQ,f4h,e14,f4o,e12];rfl;kernel_rfl))
        refine a1j (x.ins.length-(k+1)) (by omega) ⟨_,_,?_,inn.set m true,[m],[],some 1,k+1,rfl,dw,nq,o8,rfl,rfl,pX [] (some 1) FlatR.nil (.inr ⟨rfl,rfl⟩)⟩;rw[cnH]
        (simp+decide only[go_sem,a02,a00,b24,c0e,a2d,a3l,az,f4g,c10,f4h]<;>rfl)<;>rfl
       |cons t0 ts=>
        obtain rfl:ts=[]:=by cases ts with
         |nil=>rfl
         |cons=>simp only[e12,f4o]at h1;omega
        obtain rfl:J=[]:=by cases J with
         |nil=>rfl
         |cons=>simp only[e12,f4o]at h1;omega
        (repeat first|simp only[ww]|(apply xa;simp+decide only[go_sem,c2,dw,hm,hw,dY,hq,jQ,az,pQ,f4h,e14,f4o,e12,c10,f4g];rfl;kernel_rfl))
        refine a1j (x.ins.length-(k+1)) (by omega) ⟨_,_,?_,inn.set m true,[t0,m],[],none,k+1,rfl,dw,nq,o8,rfl,rfl,pX [] none FlatR.nil (.inl rfl)⟩;rw[cnH]
        (simp+decide only[go_sem,a02,a00,b24,c0e,a2d,a3l,az,f4g,c10,f4h]<;>rfl)<;>rfl
    ·obtain rfl:k=x.ins.length:=by omega
     have c2:¬(x.ins.length:Int)<x.ins.length:=by omega
     (repeat first|simp only[ww]|(apply xa;simp+decide only[go_sem,c2];rfl;kernel_rfl))
     refine a1j (inn.count false+T.length) hN ⟨_,_,?_,inn,T,J,cap,rfl,by omega,rfl,rfl,hC⟩;rw[cnH]
     (simp+decide only[go_sem,a02,a00,b24,c0e,a2d,a3l,mA,me]<;>rfl)<;>rfl
attribute [go_sem] Flt.enc
theorem c47(c:Cir)(h:c.wf)(a:Nat)(ha:a<c.nodes.length):∃l:List Bool,l.length=c.nodes.length∧(∀b:Nat,l[b]?=some true→DepOn c.nodes a b)∧∀(d:Bool) (H:a03),a0b L.env d (sem L.env Mf) (.func (.func 146) [] []) [.agg c.enc,.int .i64 a] H=some (.islice (l.map b3s) (some c.nodes.length),H,[]):=by obtain⟨r,⟨l,h1,h2,rfl⟩,h3⟩:=e59 c h a ha;exact⟨l,h1,h2,λd H=>a04 (by kernel_rfl) (by kernel_rfl) rfl (by simp only[a07,a11,Cir.enc,go_sem]) h3 rfl⟩
theorem c3r{l:List Bool}{b n:Nat}(hl:l.length=n)(hb:b<n){P:Prop}(h:l[b]?=some true→P)(hP:¬P):l[b]?=some false:=by
 obtain⟨q,hq⟩:∃q,l[b]?=some q:=⟨_,z9e (by omega)⟩
 cases q with
 |false=>exact hq
 |true=>exact absurd (h hq) hP
theorem d56(c:Cir)(h:c.wf)(f:Flt)(hf:FltOk c.nodes f)(hm:f.model≠0):sem L.env Mf 114 [.agg c.enc,.agg f.enc] []=some (.int .i64 0,[]):=by
 obtain⟨b1,b2,b3,b4,b5,b6,b7,b8⟩:=hf.bridge hm;obtain⟨x,hx⟩:∃x,c.nodes[f.node]?=some x:=⟨_,z9e hf.node⟩
 obtain⟨y,hy⟩:∃y,c.nodes[f.other]?=some y:=⟨_,z9e hf.other⟩
 rw[a0y hx]at b5;rw[a0y hy]at b6;obtain⟨l1,un,um,cZ⟩:=c47 c h f.node hf.node;obtain⟨l2,ul,uk,dg⟩:=c47 c h f.other hf.other;have g1:=c3r un hf.other (um f.other) b7;have g2:=c3r ul hf.node (uk f.node) b8;have cZ:=cZ false;have dg:=dg false;have c0:¬(f.other:Int)<0:=by omega
 have c1:¬(c.nodes.length:Int)≤f.other:=by have:=hf.other;omega
 have c2:¬(f.node:Int)=f.other:=by omega
 have c3:¬(x.kind:Int)=12:=by omega
 have c4:¬(y.kind:Int)=12:=by omega
 have bH:=hf.node;have eG:=hf.other;have fN:f.model=2∨f.model=3:=by rcases hf.model with e|e|e;exact absurd e hm;exact .inl e;exact .inr e
 simp only[Cir.enc]at cZ dg;simp only[Cir.enc,Flt.enc];rw[b1];rcases fN with e|e
 ·have c5:¬(f.other:Int)<f.node:=by have:=b3 e;omega
  rw[e]
  (refine sv Tryz.f114 ?_;simp only[Tryz.f114,gS])
  (repeat first|simp only[ww]|(apply xa;simp+decide only[go_sem,c0,c1,c2,c3,c4,c5,hx,hy,cZ,dg,g1,g2,bH,eG];rfl;kernel_rfl))
  (apply fqb;simp+decide only[go_sem]<;>rfl)
 ·have hv:=b4 e;rw[e,hv]
  (refine sv Tryz.f114 ?_;simp only[Tryz.f114,gS])
  (repeat first|simp only[ww]|(apply xa;simp+decide only[go_sem,c0,c1,c2,c3,c4,hx,hy,cZ,dg,g1,g2,bH,eG];rfl;kernel_rfl))
  (apply fqb;simp+decide only[go_sem]<;>rfl)
theorem d4f(c:Cir)(h:c.wf)(f:Flt)(hf:FltOk c.nodes f):sem L.env Mf 75 [.agg c.enc,.agg f.enc] []=some (.int .i64 0,[]):=by
 have hv:=λH=>b17 (d:=false) H c h;have hl:=λH=>c9x (d:=false) H c h f.node f.pin hf.node hf.pin.1 hf.pin.2;have cW:=hf.value;have c2:¬(1:Int)<f.value:=by omega
 by_cases hm:f.model=0
 ·have ho:=hf.stuck hm;simp only[Cir.enc]at hv hl;simp only[Cir.enc,Flt.enc,hm,ho]
  (refine sv Tryz.f75 ?_;simp only[Tryz.f75,gS])
  (repeat first|simp only[ww]|(apply xa;simp+decide only[go_sem,hv,hl,c2];rfl;kernel_rfl))
  (apply fqb;simp+decide only[go_sem]<;>rfl)
 ·have hb:=λH=>a04 (E:=L.env) (ag:=false) (call:=sem L.env Mf) (g:=114) (fs:=[]) (cs:=[]) (ar:=[.agg c.enc,.agg f.enc]) (H:=H) (by kernel_rfl) (by kernel_rfl) rfl (by simp only[e14,f4g,a07,a11,Cir.enc,go_sem]) (d56 c h f hf hm) rfl;have fN:f.model=2∨f.model=3:=by rcases hf.model with e|e|e;exact absurd e hm;exact .inl e;exact .inr e
  have c1:¬(3:Int)<f.model:=by omega
  have c3:(2:Int)≤f.model:=by omega
  simp only[Cir.enc]at hv hl;simp only[Cir.enc,Flt.enc]at hb⊢
  (refine sv Tryz.f75 ?_;simp only[Tryz.f75,gS])
  (repeat first|simp only[ww]|(apply xa;simp+decide only[go_sem,hv,hl,c1,c2,c3,hb];rfl;kernel_rfl))
  (apply fqb;simp+decide only[go_sem]<;>rfl)
theorem a90{d:Bool}(H:a03)(c:Cir)(h:c.wf)(f:Flt)(hf:FltOk c.nodes f):a0b L.env d (sem L.env Mf) (.func (.func 75) [] []) [.agg c.enc,.agg f.enc] H=some (.int .i64 0,H,[]):=a04 (by kernel_rfl) (by kernel_rfl) rfl (by simp only[a07,a11,Cir.enc,go_sem]) (d4f c h f hf) rfl
/- the statements' own check of a bridge -/
structure FX where
 model:Nat
 node:Nat
 pin:Nat
 other:Nat
 one:Bool
def FX.enc(f:FX):List AV:=[.int .u8 f.model,.int .u8 f.node,.int .u8 f.pin,.int .u8 f.other,.bool f.one]
structure FX.ok(f:FX):Prop where
 model:f.model<256
 node:f.node<256
 pin:f.pin<256
 other:f.other<256
attribute [go_sem] FX.enc
theorem d1g{nodes:List Nd}{a p v:Nat}{x:Nd}(hx:nodes[a]?=some x)(hv:v≤1):FltOk nodes ⟨0,a,((p%(x.ins.length+1):Nat):Int)-1,v,0⟩:=by have ha:=(c13.1 hx).1;have hp:=Nat.mod_lt p (show 0<x.ins.length+1 by omega);refine⟨.inl rfl,ha,?_,hv,by show 0<nodes.length;omega,λ_=>rfl,λh=>absurd rfl h⟩;show -1≤((p%(x.ins.length+1):Nat):Int)-1∧((p%(x.ins.length+1):Nat):Int)-1<(a15 nodes a).length;rw[a1c hx];generalize p%(x.ins.length+1)=q at hp⊢;omega
attribute [go_sem] Pat.enc
structure PatOk(nodes:List Nd)(p:Pat):Prop where
 ins:p.ins.length=(kinds nodes 0).length
 sts:p.sts.length=(kinds nodes 14).length
 inv:∀v∈p.ins,v≤3
 stv:∀v∈p.sts,v≤3
theorem a3h(nodes:List Nd)(k:Nat):(kinds nodes k).length≤nodes.length:=b1z _ _ _
/- patterns that fit -/
theorem e07(v:Nat)(hv:v≤3):sem L.env Mf 55 [.int .u8 v] []=some (.bool false,[]):=by
 have c1:¬(3:Int)<v:=by omega
 (refine sv Tryz.f55 ?_;simp only[Tryz.f55,gS])
 (repeat first|simp only[ww]|(apply xa;simp+decide only[go_sem,c1];rfl;kernel_rfl))
 (apply fqb;simp+decide only[go_sem]<;>rfl)
theorem d0t{d:Bool}(H:a03)(v:Nat)(hv:v≤3):a0b L.env d (sem L.env Mf) (.func (.func 55) [] []) [.int .u8 v] H=some (.bool false,H,[]):=a04 (by kernel_rfl) (by kernel_rfl) rfl rfl (e07 v hv) rfl
def b0s:AV:=.func (.func 55) [] []
theorem d3p(r:Rep)(l:List Nat)(hl:l.length<1000000)(hc:∀v∈l,v≤3) :
 sem L.env Mf 98 [sl r (l.map u8R),b0s] []=some (.int .i64 (-1),[]):=by
 unfold b0s
 (refine sv Tryz.f98 ?_;simp only[Tryz.f98,gS])
 (repeat first|simp only[ww]|(apply xa;simp+decide only[go_sem];rfl;kernel_rfl))
 refine a0q (σ:=Nat) kp98_0 (λi=>[(0,sl r (l.map u8R)),(1,b0s),(7,.int .i64 l.length),(8,.int .i64 i)])
  (λ_=>[]) (λi=>l.length-i) (λi=>i≤l.length) 0 ?_ (f4m _) ?_
 ·unfold b0s
  (simp+decide only[go_sem,a02,a00]<;>rfl)
 ·intro i hi;unfold b0s;by_cases ah:i<l.length
  ·obtain⟨x,hx⟩:∃x,l[i]?=some x:=⟨_,z9e ah⟩
   have c1:(i:Int)<l.length:=by omega
   have hw:=wI1 (n:=i) (by omega);have fe:=λH=>d0t (d:=false) H x (hc x (c11 hx))
   (repeat first|simp only[ww]|(apply xa;simp+decide only[go_sem,c1,ah,hx,hw,fe];rfl;kernel_rfl))
   refine a21 (i+1) ?_ (by omega) (by omega)
   (simp+decide only[go_sem,a02,a00,b0s]<;>rfl)
  ·obtain rfl:i=l.length:=by omega
   have c1:¬(l.length:Int)<l.length:=by omega
   (repeat first|simp only[ww]|(apply xa;simp+decide only[go_sem,c1];rfl;kernel_rfl))
   (apply fqb;simp+decide only[go_sem]<;>rfl)
theorem d0b(r:Rep)(l:List Nat)(hl:l.length<1000000)(hc:∀v∈l,v≤3) :
 sem L.env Mf 54 [sl r (l.map u8R),b0s] []=some (.bool false,[]):=by
 have h:=λH=>a04 (E:=L.env) (ag:=false) (call:=sem L.env Mf) (g:=98) (fs:=[]) (cs:=[]) (ar:=[sl r (l.map u8R),b0s]) (H:=H) (by kernel_rfl) (by kernel_rfl) rfl (by simp only[e14,f4g,a07,b0s,go_sem]) (d3p r l hl hc) rfl;have c1:¬(0:Int)≤ -1:=by omega
 unfold b0s at h⊢
 (refine sv Tryz.f54 ?_;simp only[Tryz.f54,gS])
 (repeat first|simp only[ww]|(apply xa;simp+decide only[go_sem,h,c1];rfl;kernel_rfl))
 (apply fqb;simp+decide only[go_sem]<;>rfl)
theorem b9o{d:Bool}(H:a03)(r:Rep)(l:List Nat)(hl:l.length<1000000)(hc:∀v∈l,v≤3):a0b L.env d (sem L.env Mf) (.func (.func 54) [] []) [sl r (l.map u8R),.func (.func 55) [] []] H=some (.bool false,H,[]):=a04 (by kernel_rfl) (by kernel_rfl) rfl (by simp only[e14,f4g,a07,go_sem]) (d0b r l hl hc) rfl
theorem e43(c:Cir)(h:c.wf):kinds c.nodes 15=[]:=by
 unfold kinds a40;rw[List.filter_eq_nil_iff];intro j hj;have hj:j<c.nodes.length:=by simpa using hj
 obtain⟨x,hx⟩:∃x,c.nodes[j]?=some x:=⟨_,z9e hj⟩
 have:=h.kind x (c11 hx);rw[a0y hx];simp;omega
theorem d4b(c:Cir)(h:c.wf)(p:Pat)(hp:PatOk c.nodes p):sem L.env Mf 22 [.agg c.enc,.agg p.enc] []=some (.int .i64 0,[]):=by
 have hn:=h.len;have hk0:=a3h c.nodes 0;have gp:=a3h c.nodes 14;have l1:=hp.ins;have l2:=hp.sts;have ho:=λX Y=>c0r (d:=false) (H:=[X,Y,some (.row 1 [[.int .u8 15]])]) (b:=2) c (k:=15) rfl (by omega) rfl;rw[e43 c h,c7n]at ho;have hi:=λH=>a8x (d:=true) H c (by omega);have hs:=λH=>a5w (d:=true) H c (by omega);obtain⟨r0,e0⟩:=a3b (kinds c.nodes 0);obtain⟨r1,e1⟩:=a3b (kinds c.nodes 14);rw[e0]at hi;rw[e1]at hs;have cZ:=λH=>b9o (d:=false) H p.ic p.ins (by omega) hp.inv;have dg:=λH=>b9o (d:=false) H p.sc p.sts (by omega) hp.stv;simp only[Cir.enc]at ho hi hs;simp only[Cir.enc,Pat.enc]
 (refine sv Tryz.f22 ?_;simp only[Tryz.f22,gS])
 (repeat first|simp only[ww]|(apply xa;simp+decide only[go_sem,ho,hi,hs,cZ,dg,l1,l2];rfl;kernel_rfl))
 (apply fqb;simp+decide only[go_sem]<;>rfl)
theorem d1t(c:Cir)(h:c.wf)(p:Pat)(hp:PatOk c.nodes p):sem L.env Mf 78 [.agg c.enc,.agg p.enc] []=some (.int .i64 0,[]):=by
 have hc:=λH=>b61 (d:=false) H c h;have hf:=λH=>a04 (E:=L.env) (ag:=false) (call:=sem L.env Mf) (g:=22) (fs:=[]) (cs:=[]) (ar:=[.agg c.enc,.agg p.enc]) (H:=H) (by kernel_rfl) (by kernel_rfl) rfl (by simp only[e14,f4g,a07,a11,Cir.enc,Pat.enc,go_sem]) (d4b c h p hp) rfl;simp only[Cir.enc,Pat.enc]at hc hf⊢
 (refine sv Tryz.f78 ?_;simp only[Tryz.f78,gS])
 (repeat first|simp only[ww]|(apply xa;simp+decide only[go_sem,hc,hf];rfl;kernel_rfl))
 (apply fqb;simp+decide only[go_sem]<;>rfl)
theorem b0w{d:Bool}(H:a03)(c:Cir)(h:c.wf)(p:Pat)(hp:PatOk c.nodes p):a0b L.env d (sem L.env Mf) (.func (.func 78) [] []) [.agg c.enc,.agg p.enc] H=some (.int .i64 0,H,[]):=a04 (by kernel_rfl) (by kernel_rfl) rfl (by simp only[a07,a11,Cir.enc,Pat.enc,go_sem]) (d1t c h p hp) rfl
end Go.TInst
