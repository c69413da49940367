/- Part of a proof. No condition. -/
import Derived.Test.YtmiegcjnimlbmaaGreatDoorUGa
import Derived.Test.YtmiegcjnimlbmaaGreatDoorPcB
import Derived.Test.YtmiegcjnimlbmaaGreatDoorAxD
set_option linter.unusedSimpArgs false
set_option linter.unusedVariables false
namespace Go.UInst
open Go.Proofs Go.Ax Go.Pc
set_option maxRecDepth 100000
theorem d4b(k:Nat)(hk:k<16):sem L.env Mf 106 [.int .u8 k] []=some (.tuple [.int .i64 (a22 k:Nat),.int .i64 (a23 k:Nat)],[]):=by
 have w:=wI (n:=k) (by omega);have c:¬(16:Int)≤k:=by omega
 have h:k=0∨k=1∨k=2∨k=3∨k=4∨k=5∨k=6∨k=7∨k=8∨k=9∨k=10∨k=11∨k=12∨k=13∨k=14∨k=15:=by omega
 rcases h with rfl|rfl|rfl|rfl|rfl|rfl|rfl|rfl|rfl|rfl|rfl|rfl|rfl|rfl|rfl|rfl
 all_goals
  (refine sv Tryz.f106 ?_;simp only[Tryz.f106,gS])
  (repeat first|simp only[ww]|(apply xa;simp+decide only[go_sem,w,c];rfl;kernel_rfl))
  (apply fqb;simp+decide only[go_sem]<;>rfl)
theorem b6a{d:Bool}(H:a03)(k:Nat)(hk:k<16):a0a L.env d (sem L.env Mf) (.func (.func 106) [] []) [.int .u8 k] H=some (.tuple [.int .i64 (a22 k:Nat),.int .i64 (a23 k:Nat)],H,[]):=a04 (by kernel_rfl) (by kernel_rfl) rfl rfl (d4b k hk) rfl
theorem d9i(k:Nat)(hk:k<256):sem L.env Mf 61 [.int .u8 k] []=some (.bool (a1n k),[]):=by
 by_cases h1:1≤k
 ·have c1:(1:Int)≤k:=by omega
  by_cases h2:k≤13
  ·have c2:(k:Int)≤13:=by omega
   rw[show a1n k=true by simp[a1n,h1,h2]]
   (refine sv Tryz.f61 ?_;simp only[Tryz.f61,gS])
   (repeat first|simp only[ww]|(apply xa;simp+decide only[go_sem,c1,c2];rfl;kernel_rfl))
   (apply fqb;simp+decide only[go_sem]<;>rfl)
  ·have c2:¬(k:Int)≤13:=by omega
   rw[show a1n k=false by simp[a1n,h2]]
   (refine sv Tryz.f61 ?_;simp only[Tryz.f61,gS])
   (repeat first|simp only[ww]|(apply xa;simp+decide only[go_sem,c1,c2];rfl;kernel_rfl))
   (apply fqb;simp+decide only[go_sem]<;>rfl)
 ·have c1:¬(1:Int)≤k:=by omega
  rw[show a1n k=false by simp[a1n,h1]]
  (refine sv Tryz.f61 ?_;simp only[Tryz.f61,gS])
  (repeat first|simp only[ww]|(apply xa;simp+decide only[go_sem,c1];rfl;kernel_rfl))
  (apply fqb;simp+decide only[go_sem]<;>rfl)
theorem d8u(k v:Nat):sem L.env Mf 136 [.slice 0 0 1 (some 1),.int .u8 v] [some (.row 1 [[.int .u8 k]])]=some (.int .i64 (if v=k then 0 else -1),[some (.row 1 [[.int .u8 k]])]):=by
 (refine sv Tryz.f136 ?_;simp only[Tryz.f136,gS])
 (repeat first|simp only[ww]|(apply xa;simp+decide only[go_sem];rfl;kernel_rfl))
 refine a0l (σ:=Nat) kp136_0 (λi=>[(0,.slice 0 0 1 (some 1)),(1,.int .u8 v),(7,.int .i64 1),(8,.int .i64 i)])
  (λ_=>[some (.row 1 [[.int .u8 k]])]) (λi=>1-i) (λi=>i≤1∧(i=1→v≠k)) 0 ?_ (by simp) ?_
 ·(simp+decide only[go_sem,a01,a00]<;>rfl)
 ·rintro i ⟨hi,aw⟩
  have hh:i=0∨i=1:=by omega
  rcases hh with rfl|rfl
  ·by_cases h:v=k
   ·subst h
    (repeat first|simp only[ww]|(apply xa;simp+decide only[go_sem,e8j];rfl;kernel_rfl))
    (apply fqb;simp+decide only[go_sem,e8j]<;>rfl)
   ·have c:¬(v:Int)=k:=by omega
    (repeat first|simp only[ww]|(apply xa;simp+decide only[go_sem,c];rfl;kernel_rfl))
    refine a25 1 ?_ (by omega) (by simp[h])
    (simp+decide only[go_sem,a01,a00]<;>rfl)
  ·have h:=aw rfl;have c:¬(v:Int)=k:=by omega
   rw[e8g h]
   (repeat first|simp only[ww]|(apply xa;simp+decide only[go_sem,c];rfl;kernel_rfl))
   (apply fqb;simp+decide only[go_sem]<;>rfl)
theorem d4l(k v:Nat):sem L.env Mf 85 [.slice 0 0 1 (some 1),.int .u8 v] [some (.row 1 [[.int .u8 k]])]=some (.bool (decide (v=k)),[some (.row 1 [[.int .u8 k]])]):=by
 have hc:a0a L.env false (sem L.env Mf) (.func (.func 136) [] []) [.slice 0 0 1 (some 1),.int .u8 v] [some (.row 1 [[.int .u8 k]])]=some (.int .i64 (if v=k then 0 else -1),[some (.row 1 [[.int .u8 k]])],[0]):=a2v (by kernel_rfl) (by kernel_rfl) rfl rfl rfl (FlatO.row (FlatR.cons rfl FlatR.nil)) rfl rfl (d8u k v) rfl;by_cases h:v=k
 ·rw[e8j h]at hc
  (refine sv Tryz.f85 ?_;simp only[Tryz.f85,gS])
  (repeat first|simp only[ww]|(apply xa;simp+decide only[go_sem,hc];rfl;kernel_rfl))
  (apply fqb;simp+decide only[go_sem,h]<;>rfl)
 ·rw[e8g h]at hc
  (refine sv Tryz.f85 ?_;simp only[Tryz.f85,gS])
  (repeat first|simp only[ww]|(apply xa;simp+decide only[go_sem,hc];rfl;kernel_rfl))
  (apply fqb;simp+decide only[go_sem,h]<;>rfl)
theorem c66{d:Bool}(k v:Nat)(X:a03):a0a L.env d (sem L.env Mf) (.func (.func 85) [] []) [.slice 0 0 1 (some 1),.int .u8 v] (some (.row 1 [[.int .u8 k]])::X)=some (.bool (decide (v=k)),some (.row 1 [[.int .u8 k]])::X,[0]):=a2v (by kernel_rfl) (by kernel_rfl) rfl rfl rfl (FlatO.row (FlatR.cons rfl FlatR.nil)) rfl rfl (d4l k v) rfl
def a3g(nodes:List Nd)(k i:Nat):List Nat:=(List.range i).filter λj=>decide (a0t nodes j=k)
theorem b3h(nodes:List Nd)(k i:Nat):a3g nodes k (i+1)=if a0t nodes i=k then a3g nodes k i++[i]else a3g nodes k i:=by unfold a3g;rw[f2r,List.filter_append];by_cases h:a0t nodes i=k<;>simp[h]
theorem b3i(nodes:List Nd)(k i:Nat):(a3g nodes k i).length≤i:=Nat.le_trans (List.length_filter_le _ _) (by simp)
def kinds(nodes:List Nd)(k:Nat):List Nat:=a3g nodes k nodes.length
def c9q(l:List Nat):AV:=sl (match l with|[]=>none|a::r=>some (some (r.length+1))) (l.map a0f)
theorem c3j:c9q [] = .nilslice:=by rfl
theorem c9p(a:Nat)(r:List Nat):c9q (a::r) = .islice ((a::r).map a0f) (some (r.length+1)):=by rfl
theorem a16{nodes:List Nd}{i:Nat}{x:Nd}(h:nodes[i]?=some x):a0t nodes i=x.kind:=by simp[a0t,h]
theorem a1q(l:List Nat):(l.map a0f).flatMap a0d=[]:=a08 (FlatR.map λ_=>rfl)
theorem a2z(π:Nat→Option Nat)(l:List Nat):(l.map a0f).map (λr=>r.map (ren π))=l.map a0f:=a05 π (FlatR.map λ_=>rfl)
theorem d49(l:List Nat):FlatR (l.map a0f):=FlatR.map λ_=>rfl
theorem d91{m:Nat}{d:AV→Option AV}(l:List Nat):a8v m d (l.map a0f)=some (l.map a0f):=a12 m d (FlatR.map λ_=>rfl)
theorem d4p:sem L.env Mf 86 [.nilslice] []=some (.nilslice,[]):=by
 (refine sv Tryz.f86 ?_;simp only[Tryz.f86,gS])
 (repeat first|simp only[ww]|(apply xa;simp+decide only[go_sem];rfl;kernel_rfl))
 (apply fqb;simp+decide only[go_sem]<;>rfl)
theorem d9j(n:Nat)(aa:List (List AV))(hf:FlatR aa):sem L.env Mf 86 [.slice 0 0 n none] [some (.row 1 aa)]=some (.slice 0 0 n (some n),[some (.row 1 aa)]):=by
 have h1:=λπ=>a05 π hf
 (refine sv Tryz.f86 ?_;simp only[Tryz.f86,gS])
 (repeat first|simp only[ww]|(apply xa;simp+decide only[go_sem];rfl;kernel_rfl))
 (apply fqb;simp+decide only[go_sem,h1]<;>rfl)
theorem d0p{d:Bool}{H:a03}{b n:Nat}{aa:List (List AV)}(hf:FlatR aa)(hb:a02 H b=some (.row 1 aa)):a0a L.env d (sem L.env Mf) (.func (.func 86) [] []) [.slice b 0 n none] H=some (.slice b 0 n (some n),H,[b]):=by have h:=a2y (E:=L.env) (ag:=d) (call:=sem L.env Mf) (g:=86) (fs:=[]) (cs:=[]) (ar:=[.slice b 0 n none]) (H:=H) (b:=b) (by kernel_rfl) (by kernel_rfl) rfl hb (a0k hf) (FlatO.row hf) rfl (au:=[AV.slice 0 0 n none]) (by simp only[e7l,e7i,e12,e7j,a1p]) (d9j n aa hf) (FlatO.row hf) (a4r b 0 _ n _);rw[a6u hb]at h;exact h
theorem e2x(c:Cir)(k:Nat)(hl:c.nodes.length<1000000):sem L.env Mf 35 [.agg c.enc,.slice 0 0 1 (some 1)] [some (.row 1 [[.int .u8 k]])]=some (c9q (kinds c.nodes k),[some (.row 1 [[.int .u8 k]])]):=by
 have bA:=λv X=>c66 (d:=false) k v X
 (refine sv Tryz.f35 ?_;simp only[Tryz.f35,gS])
 (repeat first|simp only[ww]|(apply xa;simp+decide only[go_sem,Cir.enc];rfl;kernel_rfl))
 refine a0l (σ:=Nat) kp35_0 (λi=>[(1,.slice 0 0 1 (some 1)),(5,grV 1 ((a3g c.nodes k i).map a0f)),(9,sl c.nc (c.nodes.map Nd.enc)),(10,.int .i64 c.nodes.length),(11,.int .i64 i)])
  (λi=>some (.row 1 [[.int .u8 k]])::grH 1 ((a3g c.nodes k i).map a0f)) (λi=>c.nodes.length-i) (λi=>i≤c.nodes.length) 0 ?_ (e8e _) ?_
 ·have e:a3g c.nodes k 0=[]:=rfl
  (simp+decide only[go_sem,a01,a00,e,e7j,a0p,a0q]<;>rfl)
 ·intro i hi;by_cases aj:i<c.nodes.length
  ·obtain⟨x,hx⟩:∃x,c.nodes[i]?=some x:=⟨_,z9e aj⟩
   have c1:(i:Int)<c.nodes.length:=by omega
   have hw:=wI1 (n:=i) (by omega);have hs:=b3h c.nodes k i;rw[a16 hx]at hs;have bl:=b3i c.nodes k i;have aK:(a3g c.nodes k i).length+1≤1000000000:=by omega
   by_cases hk:x.kind=k
   ·rw[e8j hk]at hs;generalize a3g c.nodes k i=l at hs bl aK;cases l with
    |nil=>
     (repeat first|simp only[ww]|(apply xa;simp+decide only[go_sem,c1,aj,hx,hw,bA,hk,e7j,a0p,a0q];rfl;kernel_rfl))
     refine a25 (i+1) ?_ (by omega) (by omega);rw[hs]
     (simp+decide only[go_sem,a01,a00,e7j,e7l,e12,a09,a0b,e8c]<;>rfl)
    |cons a r=>
     simp only[e7g]at aK
     (repeat first|simp only[ww]|(apply xa;simp+decide only[go_sem,c1,aj,hx,hw,bA,hk,e12,a09,a0b,aK,e7g];rfl;kernel_rfl))
     refine a25 (i+1) ?_ (by omega) (by omega);rw[hs]
     (simp+decide only[go_sem,a01,a00,e9h,e12,a09,a0b,a1q,a2z,e7g]<;>rfl)
   ·rw[e8g hk]at hs;have eX:¬(x.kind:Int)=k:=by omega
    generalize a3g c.nodes k i=l at hs bl aK;cases l with
    |nil=>
     (repeat first|simp only[ww]|(apply xa;simp+decide only[go_sem,c1,aj,hx,hw,bA,hk,e7j,a0p,a0q];rfl;kernel_rfl))
     refine a25 (i+1) ?_ (by omega) (by omega);rw[hs]
     (simp+decide only[go_sem,a01,a00,e7j,a0p,a0q]<;>rfl)
    |cons a r=>
     (repeat first|simp only[ww]|(apply xa;simp+decide only[go_sem,c1,aj,hx,hw,bA,hk,e12,a09,a0b];rfl;kernel_rfl))
     refine a25 (i+1) ?_ (by omega) (by omega);rw[hs]
     (simp+decide only[go_sem,a01,a00,e12,a09,a0b,a1q,a2z]<;>rfl)
  ·obtain rfl:i=c.nodes.length:=by omega
   have c1:¬(c.nodes.length:Int)<c.nodes.length:=by omega
   unfold kinds;generalize a3g c.nodes k c.nodes.length=l;cases l with
   |nil=>
    have cF:=λH=>a04 (E:=L.env) (ag:=false) (call:=sem L.env Mf) (g:=86) (fs:=[]) (cs:=[]) (ar:=[.nilslice]) (H:=H) (by kernel_rfl) (by kernel_rfl) rfl rfl d4p rfl
    (repeat first|simp only[ww]|(apply xa;simp+decide only[go_sem,c1,e7j,a0p,a0q,cF];rfl;kernel_rfl))
    (apply fqb;simp+decide only[go_sem,c3j]<;>rfl)
   |cons a r=>
    have cF:=d0p (d:=false) (H:=[some (.row 1 [[.int .u8 k]]),some (.row 1 ((a::r).map a0f))]) (b:=1) (n:=r.length+1) (d49 _) rfl;simp only[e12,go_sem]at cF
    (repeat first|simp only[ww]|(apply xa;simp+decide only[go_sem,c1,e12,a09,a0b,c10,cF];rfl;kernel_rfl))
    (apply fqb;simp+decide only[go_sem,c9p,e12,d91,e7g]<;>rfl)
theorem d7o(π:Nat→Option Nat)(c:Cir):ren π (.agg c.enc) = .agg c.enc:=a0w π _ (by simp only[a0n,Cir.enc,go_sem])
theorem b2r(l:List Nat):refs (c9q l)=[]:=a1b _ _
theorem b1x{d:Bool}{H:a03}{b:Nat}(c:Cir){k:Nat}{n:Int}(hn:n=k)(hl:c.nodes.length<1000000)(hb:a02 H b=some (.row 1 [[.int .u8 n]])) :
 a0a L.env d (sem L.env Mf) (.func (.func 35) [] []) [.agg c.enc,.slice b 0 1 (some 1)] H=some (c9q (kinds c.nodes k),H,[b]):=by
 subst hn;exact a2v (E:=L.env) (ag:=d) (call:=sem L.env Mf) (g:=35) (fs:=[]) (cs:=[]) (ar:=[.agg c.enc,.slice b 0 1 (some 1)]) (H:=H) (b:=b) (by kernel_rfl) (by kernel_rfl) rfl hb rfl (FlatO.row (FlatR.cons rfl FlatR.nil)) (by simp only[e7l,e7i,a06,a0n,Cir.enc,go_sem]) (au:=[.agg c.enc,.slice 0 0 1 (some 1)]) (by simp only[e7l,e7i,e12,e7j,a1p,d7o]) (e2x c k hl) (b2r _)
theorem a4d(l:List Nat):∃r,c9q l=sl r (l.map a0f):=⟨_,rfl⟩
theorem c9k(c:Cir)(hl:c.nodes.length<1000000):sem L.env Mf 13 [.agg c.enc] []=some (c9q (kinds c.nodes 0),[]):=by
 have hc:=λX=>b1x (d:=false) (H:=[X,some (.row 1 [[.int .u8 0]])]) (b:=1) c (k:=0) rfl hl rfl;obtain⟨r,hr⟩:=a4d (kinds c.nodes 0);rw[hr]at hc⊢;simp only[Cir.enc]at hc⊢
 (refine sv Tryz.f13 ?_;simp only[Tryz.f13,gS])
 (repeat first|simp only[ww]|(apply xa;simp+decide only[go_sem,hc];rfl;kernel_rfl))
 (apply fqb;simp+decide only[go_sem]<;>rfl)
theorem c7i(c:Cir)(hl:c.nodes.length<1000000):sem L.env Mf 57 [.agg c.enc] []=some (c9q (kinds c.nodes 14),[]):=by
 have hc:=λX=>b1x (d:=false) (H:=[X,some (.row 1 [[.int .u8 14]])]) (b:=1) c (k:=14) rfl hl rfl;obtain⟨r,hr⟩:=a4d (kinds c.nodes 14);rw[hr]at hc⊢;simp only[Cir.enc]at hc⊢
 (refine sv Tryz.f57 ?_;simp only[Tryz.f57,gS])
 (repeat first|simp only[ww]|(apply xa;simp+decide only[go_sem,hc];rfl;kernel_rfl))
 (apply fqb;simp+decide only[go_sem]<;>rfl)
theorem a3u{d:Bool}(H:a03)(c:Cir)(hl:c.nodes.length<1000000):a0a L.env d (sem L.env Mf) (.func (.func 13) [] []) [.agg c.enc] H=some (c9q (kinds c.nodes 0),H,[]):=a04 (by kernel_rfl) (by kernel_rfl) rfl (by simp only[a06,a0n,Cir.enc,go_sem]) (c9k c hl) (b2r _)
theorem a5l{d:Bool}(H:a03)(c:Cir)(hl:c.nodes.length<1000000):a0a L.env d (sem L.env Mf) (.func (.func 57) [] []) [.agg c.enc] H=some (c9q (kinds c.nodes 14),H,[]):=a04 (by kernel_rfl) (by kernel_rfl) rfl (by simp only[a06,a0n,Cir.enc,go_sem]) (c7i c hl) (b2r _)
def c39(c:Cir):AV:=.func (.func 211) [] [.iptr c.enc]
theorem c80(c:Cir):refs (c39 c)=[]:=by rfl
theorem c56(c:Cir):sem L.env Mf 175 [.agg c.enc] []=some (c39 c,[]):=by
 unfold c39;simp only[Cir.enc]
 (refine sv Tryz.f175 ?_;simp only[Tryz.f175,gS])
 (repeat first|simp only[ww]|(apply xa;simp+decide only[go_sem];rfl;kernel_rfl))
 (apply fqb;simp+decide only[go_sem]<;>rfl)
theorem a7t{d:Bool}(H:a03)(c:Cir):a0a L.env d (sem L.env Mf) (.func (.func 175) [] []) [.agg c.enc] H=some (c39 c,H,[]):=a04 (by kernel_rfl) (by kernel_rfl) rfl (by simp only[a06,a0n,Cir.enc,go_sem]) (c56 c) rfl
theorem d80(c:Cir)(m:Nat)(hm:m<c.nodes.length):sem L.env Mf 211 [.int .i64 m,.iptr c.enc] []=some (.bool false,[]):=by
 have c1:¬(m:Int)<0:=by omega
 have c2:¬(c.nodes.length:Int)≤m:=by omega
 simp only[Cir.enc]
 (refine sv Tryz.f211 ?_;simp only[Tryz.f211,gS])
 (repeat first|simp only[ww]|(apply xa;simp+decide only[go_sem,c1,c2];rfl;kernel_rfl))
 (apply fqb;simp+decide only[go_sem]<;>rfl)
theorem b96{d:Bool}(H:a03)(c:Cir)(m:Nat)(hm:m<c.nodes.length):a0a L.env d (sem L.env Mf) (c39 c) [.int .i64 m] H=some (.bool false,H,[]):=a04 (by kernel_rfl) (by kernel_rfl) rfl (by simp only[a06,Cir.enc,go_sem]) (d80 c m hm) rfl
theorem c9o(r:Rep)(l:List Nat)(f:AV)(hf:refs f=[])(hl:l.length<1000000)(hc:∀m∈l,a0a L.env false (sem L.env Mf) f [.int .i64 m] []=some (.bool false,[],[])) :
 sem L.env Mf 210 [sl r (l.map a0f),f] []=some (.int .i64 (-1),[]):=by
 have hr:∀π,ren π f=f:=λπ=>a0w π f hf
 (refine sv Tryz.f210 ?_;simp only[Tryz.f210,gS])
 (repeat first|simp only[ww]|(apply xa;simp+decide only[go_sem];rfl;kernel_rfl))
 refine a0l (σ:=Nat) kp210_0 (λi=>[(0,sl r (l.map a0f)),(1,f),(7,.int .i64 l.length),(8,.int .i64 i)])
  (λ_=>[]) (λi=>l.length-i) (λi=>i≤l.length) 0 ?_ (e8e _) ?_
 ·(simp+decide only[go_sem,a01,a00,hf,hr]<;>rfl)
 ·intro i hi;by_cases aj:i<l.length
  ·obtain⟨x,hx⟩:∃x,l[i]?=some x:=⟨_,z9e aj⟩
   have c1:(i:Int)<l.length:=by omega
   have hw:=wI1 (n:=i) (by omega);have gX:=hc x (c11 hx)
   (repeat first|simp only[ww]|(apply xa;simp+decide only[go_sem,c1,aj,hx,hw,gX];rfl;kernel_rfl))
   refine a25 (i+1) ?_ (by omega) (by omega)
   (simp+decide only[go_sem,a01,a00,hf,hr]<;>rfl)
  ·obtain rfl:i=l.length:=by omega
   have c1:¬(l.length:Int)<l.length:=by omega
   (repeat first|simp only[ww]|(apply xa;simp+decide only[go_sem,c1];rfl;kernel_rfl))
   (apply fqb;simp+decide only[go_sem]<;>rfl)
theorem c67(r:Rep)(l:List Nat)(f:AV)(hf:refs f=[])(hl:l.length<1000000)(hc:∀m∈l,a0a L.env false (sem L.env Mf) f [.int .i64 m] []=some (.bool false,[],[])) :
 sem L.env Mf 174 [sl r (l.map a0f),f] []=some (.bool false,[]):=by
 have h:=λH=>a04 (E:=L.env) (ag:=false) (call:=sem L.env Mf) (g:=210) (fs:=[]) (cs:=[]) (ar:=[sl r (l.map a0f),f]) (H:=H) (by kernel_rfl) (by kernel_rfl) rfl (by simp only[e7l,e7i,a06,hf,go_sem]) (c9o r l f hf hl hc) rfl;have c1:¬(0:Int)≤ -1:=by omega
 (refine sv Tryz.f174 ?_;simp only[Tryz.f174,gS])
 (repeat first|simp only[ww]|(apply xa;simp+decide only[go_sem,h,c1];rfl;kernel_rfl))
 (apply fqb;simp+decide only[go_sem]<;>rfl)
theorem b9y{d:Bool}(H:a03)(c:Cir)(r:Rep)(l:List Nat)(hl:l.length<1000000)(h:∀m∈l,m<c.nodes.length) :
 a0a L.env d (sem L.env Mf) (.func (.func 174) [] []) [sl r (l.map a0f),c39 c] H=some (.bool false,H,[]):=
 a04 (by kernel_rfl) (by kernel_rfl) rfl (by simp only[e7l,e7i,a06,c80,go_sem]) (c67 r l (c39 c) rfl hl (λm hm=>b96 [] c m (h m hm))) rfl
/- the drivers of a bus -/
theorem d2w(c:Cir)(m:Nat)(hm:m<c.nodes.length)(hk:a0t c.nodes m=12):sem L.env Mf 206 [.int .i64 m,.ptr 0 0 0] [some (.row 4 [c.enc])]=some (.bool false,[some (.row 4 [c.enc])]):=by
 obtain⟨x,hx⟩:∃x,c.nodes[m]?=some x:=⟨_,z9e hm⟩
 rw[a16 hx]at hk;simp only[Cir.enc]
 (refine sv Tryz.f206 ?_;simp only[Tryz.f206,gS])
 (repeat first|simp only[ww]|(apply xa;simp+decide only[go_sem,hx,hk,hm];rfl;kernel_rfl))
 (apply fqb;simp+decide only[go_sem]<;>rfl)
theorem a6m(c:Cir):FlatR [c.enc]:=FlatR.cons (by simp only[Cir.enc,go_sem]) FlatR.nil
theorem c57{d:Bool}(H:a03)(c:Cir)(b m:Nat)(hb:a02 H b=some (.row 4 [c.enc]))(hm:m<c.nodes.length)(hk:a0t c.nodes m=12):a0a L.env d (sem L.env Mf) (.func (.func 206) [] [.ptr b 0 0]) [.int .i64 m] H=some (.bool false,H,[b]):=a2v (fs:=[]) (cs:=[.ptr b 0 0]) (ar:=[.int .i64 m]) (by kernel_rfl) (by kernel_rfl) rfl hb (a0k (a6m c)) (FlatO.row (a6m c)) rfl (au:=[.int .i64 m,.ptr 0 0 0]) (by simp[ren,a8o]) (d2w c m hm hk) rfl
theorem c5n(r:Rep)(l:List Nat)(c:Cir)(hl:l.length<1000000)(hc:∀m∈l,m<c.nodes.length∧a0t c.nodes m=12) :
 sem L.env Mf 210 [sl r (l.map a0f),.func (.func 206) [] [.ptr 0 0 0]] [some (.row 4 [c.enc])]=some (.int .i64 (-1),[some (.row 4 [c.enc])]):=by
 have bY:a0d c.enc=[]:=by simp only[Cir.enc,go_sem]
 have lq:∀π,c.enc.map (ren π)=c.enc:=λπ=>a2t π bY;have ai:=λm h1 h2=>c57 (d:=false) [some (.row 4 [c.enc])] c 0 m rfl h1 h2;generalize he:c.enc=E at bY lq ai
 (refine sv Tryz.f210 ?_;simp only[Tryz.f210,gS])
 (repeat first|simp only[ww]|(apply xa;simp+decide only[go_sem];rfl;kernel_rfl))
 refine a0l (σ:=Nat) kp210_0 (λi=>[(0,sl r (l.map a0f)),(1,.func (.func 206) [] [.ptr 0 0 0]),(7,.int .i64 l.length),(8,.int .i64 i)])
  (λ_=>[some (.row 4 [E])]) (λi=>l.length-i) (λi=>i≤l.length) 0 ?_ (e8e _) ?_
 ·(simp+decide only[go_sem,a01,a00,bY,lq]<;>rfl)
 ·intro i hi;by_cases aj:i<l.length
  ·obtain⟨x,hx⟩:∃x,l[i]?=some x:=⟨_,z9e aj⟩
   have c1:(i:Int)<l.length:=by omega
   have hw:=wI1 (n:=i) (by omega);have gX:=ai x (hc x (c11 hx)).1 (hc x (c11 hx)).2
   (repeat first|simp only[ww]|(apply xa;simp+decide only[go_sem,c1,aj,hx,hw,gX];rfl;kernel_rfl))
   refine a25 (i+1) ?_ (by omega) (by omega)
   (simp+decide only[go_sem,a01,a00,bY,lq]<;>rfl)
  ·obtain rfl:i=l.length:=by omega
   have c1:¬(l.length:Int)<l.length:=by omega
   (repeat first|simp only[ww]|(apply xa;simp+decide only[go_sem,c1];rfl;kernel_rfl))
   (apply fqb;simp+decide only[go_sem,lq]<;>rfl)
theorem b9z(r:Rep)(l:List Nat)(c:Cir)(hl:l.length<1000000)(hc:∀m∈l,m<c.nodes.length∧a0t c.nodes m=12) :
 sem L.env Mf 174 [sl r (l.map a0f),.func (.func 206) [] [.ptr 0 0 0]] [some (.row 4 [c.enc])]=some (.bool false,[some (.row 4 [c.enc])]):=by
 have h:=a2v (E:=L.env) (ag:=false) (call:=sem L.env Mf) (g:=210) (fs:=[]) (cs:=[]) (ar:=[sl r (l.map a0f),.func (.func 206) [] [.ptr 0 0 0]]) (H:=[some (.row 4 [c.enc])]) (b:=0) (by kernel_rfl) (by kernel_rfl) rfl rfl (a0k (a6m c)) (FlatO.row (a6m c)) (by simp only[e7l,e7i,a06,go_sem]) (by simp only[e7l,e7i,e12,e7j,b8y];simp[ren,b8h,a8o]) (c5n r l c hl hc) rfl;have c1:¬(0:Int)≤ -1:=by omega
 have bY:a0d c.enc=[]:=by simp only[Cir.enc,go_sem]
 have lq:∀π,c.enc.map (ren π)=c.enc:=λπ=>a2t π bY;generalize he:c.enc=E at bY lq h
 (refine sv Tryz.f174 ?_;simp only[Tryz.f174,gS])
 (repeat first|simp only[ww]|(apply xa;simp+decide only[go_sem,h,c1];rfl;kernel_rfl))
 (apply fqb;simp+decide only[go_sem,lq]<;>rfl)
theorem c28{d:Bool}{H:a03}{b:Nat}(c:Cir)(r:Rep)(l:List Nat)(hl:l.length<1000000)(hc:∀m∈l,m<c.nodes.length∧a0t c.nodes m=12)(hb:a02 H b=some (.row 4 [c.enc])) :
 a0a L.env d (sem L.env Mf) (.func (.func 174) [] []) [sl r (l.map a0f),.func (.func 206) [] [.ptr b 0 0]] H=some (.bool false,H,[b]):=
 a2v (fs:=[]) (cs:=[]) (ar:=[sl r (l.map a0f),.func (.func 206) [] [.ptr b 0 0]]) (by kernel_rfl) (by kernel_rfl) rfl hb (a0k (a6m c)) (FlatO.row (a6m c)) (by simp only[e7l,e7i,a06,go_sem]) (by simp only[e7l,e7i,e12,e7j,b8y];simp[ren,b8h,a8o]) (b9z r l c hl hc) rfl
theorem e42(c:Cir)(x:Nd)(hm:x.mem=0∧x.bit=0)(hk:x.kind≤14):sem L.env Mf 207 [.agg c.enc,.agg x.enc] []=some (.bool true,[]):=by
 have c1:¬(x.kind:Int)=15:=by omega
 obtain⟨m1,m2⟩:=hm;simp only[Cir.enc,Nd.enc,m1,m2]
 (refine sv Tryz.f207 ?_;simp only[Tryz.f207,gS])
 (repeat first|simp only[ww]|(apply xa;simp+decide only[go_sem,c1];rfl;kernel_rfl))
 (apply fqb;simp+decide only[go_sem]<;>rfl)
theorem d50{d:Bool}(H:a03)(c:Cir)(x:Nd)(hm:x.mem=0∧x.bit=0)(hk:x.kind≤14):a0a L.env d (sem L.env Mf) (.func (.func 207) [] []) [.agg c.enc,.agg x.enc] H=some (.bool true,H,[]):=a04 (by kernel_rfl) (by kernel_rfl) rfl (by simp only[a06,a0n,Cir.enc,go_sem]) (e42 c x hm hk) rfl
theorem d86(c:Cir)(h:c.wf)(x:Nd)(hx:x∈c.nodes):sem L.env Mf 171 [.agg c.enc,.agg x.enc] []=some (.int .i64 0,[]):=by
 have k14:=h.kind x hx;have bV:=h.lo x hx;have mq:=h.hi x hx;have al:x.ins.length<1000000:=by
  have:a23 x.kind≤16:=by
   have hk:x.kind=0∨x.kind=1∨x.kind=2∨x.kind=3∨x.kind=4∨x.kind=5∨x.kind=6∨x.kind=7∨x.kind=8∨x.kind=9∨x.kind=10∨x.kind=11∨x.kind=12∨x.kind=13∨x.kind=14:=by omega
   rcases hk with e|e|e|e|e|e|e|e|e|e|e|e|e|e|e<;>rw[e]<;>decide
  omega
 have hf:=λH=>b6a (d:=false) H x.kind (by omega);have ho:=λH=>a7t (d:=true) H c;have hc:=λH=>b9y (d:=true) H c x.c x.ins al (h.ins x hx);have hb:=λH=>d50 (d:=false) H c x (h.mem x hx) k14;have c1:¬(15:Int)<x.kind:=by omega
 have c2:¬(x.ins.length:Int)<a22 x.kind:=by omega
 have c3:¬(a23 x.kind:Int)<x.ins.length:=by omega
 have bY:a0d c.enc=[]:=by simp only[Cir.enc,go_sem]
 by_cases hk:x.kind=13
 ·have bG:=λ(X:Option AObj)=>c28 (d:=false) (H:=[some (.row 4 [c.enc]),X]) (b:=0) c x.c x.ins al (λm hm=>⟨h.ins x hx m hm,h.bus x hx hk m hm⟩) rfl;have ck:decide ((x.kind:Int)=13)=true:=e9w (by omega);simp only[Cir.enc,Nd.enc]at ho hc hb bG⊢
  (refine sv Tryz.f171 ?_;simp only[Tryz.f171,gS])
  (repeat first|simp only[ww]|(apply xa;simp+decide only[go_sem,hf,c1,c2,c3,ho,hc,hb,bG,ck];rfl;kernel_rfl))
  (apply fqb;simp+decide only[go_sem]<;>rfl)
 ·have ck:¬(x.kind:Int)=13:=by omega
  simp only[Cir.enc,Nd.enc]at ho hc hb⊢
  (refine sv Tryz.f171 ?_;simp only[Tryz.f171,gS])
  (repeat first|simp only[ww]|(apply xa;simp+decide only[go_sem,hf,c1,c2,c3,ho,hc,hb,ck];rfl;kernel_rfl))
  (apply fqb;simp+decide only[go_sem]<;>rfl)
theorem c8e{d:Bool}(H:a03)(c:Cir)(h:c.wf)(x:Nd)(hx:x∈c.nodes):a0a L.env d (sem L.env Mf) (.func (.func 171) [] []) [.agg c.enc,.agg x.enc] H=some (.int .i64 0,H,[]):=a04 (by kernel_rfl) (by kernel_rfl) rfl (by simp only[a06,a0n,Cir.enc,go_sem]) (d86 c h x hx) rfl
theorem c9b(i:Nat)(hi:i<14):sem L.env Mf 208 [.str (a2h i)] []=some (.bool true,[]):=by
 have h:i=0∨i=1∨i=2∨i=3∨i=4∨i=5∨i=6∨i=7∨i=8∨i=9∨i=10∨i=11∨i=12∨i=13:=by omega
 rcases h with rfl|rfl|rfl|rfl|rfl|rfl|rfl|rfl|rfl|rfl|rfl|rfl|rfl|rfl
 ·exact d3v
 ·exact d3u
 ·exact d3t
 ·exact d3s
 ·exact d3r
 ·exact d3q
 ·exact d3p
 ·exact d3o
 ·exact d3n
 ·exact d3m
 ·exact c9f
 ·exact c9e
 ·exact c9d
 ·exact c9c
theorem c1t{d:Bool}(H:a03)(i:Nat)(hi:i<14):a0a L.env d (sem L.env Mf) (.func (.func 208) [] []) [.str (a2h i)] H=some (.bool true,H,[]):=a04 (by kernel_rfl) (by kernel_rfl) rfl rfl (c9b i hi) rfl
def a7u(i:Nat):List AV:=(List.range i).map λj=>.str (a2h j)
theorem c1j(i:Nat):a7u (i+1)=a7u i++[.str (a2h i)]:=by unfold a7u;rw[f2r,e8l];rfl
theorem eqS(a b:List UInt8):aeq L.env 6 9 (.str a) (.str b)=some (a==b):=by kernel_rfl
theorem b98{i j:Nat}(hi:i<14)(hj:j<14)(h:a2h i=a2h j):i=j:=by unfold a2h at h;simp only[List.cons.injEq,and_true,true_and]at h;have h1:=congrArg UInt8.toNat h.1;have h2:=congrArg UInt8.toNat h.2;simp only[UInt8.toNat_ofNat']at h1 h2;omega
theorem d0b(s:Nat)(hs:s<14):∀(l:List Nat) (b:Nat),(∀j∈l,j<s)→a1v (aeq L.env 6 9) (.str (a2h s)) (l.map λj=>.str (a2h j)) b=some none
 | [],b,_=>rfl
 |j::l,b,h=>by
  have aw:(a2h s==a2h j)=false:=by rw[f0q];intro e;have:=b98 hs (by have:=h j (by simp);omega) e;have:=h j (by simp);omega
  simp only[e12,a1v,eqS,aw,e9q];exact d0b s hs l (b+1) (λj hj=>h j (by simp[hj]))
theorem c8j(i:Nat)(hi:i<14):a1v (aeq L.env 6 9) (.str (a2h i)) (a7u i) 0=some none:=d0b i hi _ 0 (λj hj=>by simpa using hj)
def nmO(i:Nat):AObj:=.map (a7u i) (List.replicate i (.bool true)) (List.range i) i
theorem c8i(i:Nat)(hi:i<14):a5v L.env (a02 [some (nmO i)]) 122 (.map 0) (.str (a2h i)) false=some (.bool false):=by
 have h:=c8j i hi;have e:a5v L.env (a02 [some (nmO i)]) 122 (.map 0) (.str (a2h i)) false=match a1v (aeq L.env 6 9) (.str (a2h i)) (a7u i) 0 with
  |some (some j)=>match(List.replicate i (AV.bool true))[j]? with
   |some v=>some (bif false then .tuple [v,.bool true]else v)
   |none=>none
  |some none=>some (.bool false)
  |none=>none:=by kernel_rfl
 rw[e,h]
theorem c8h(i:Nat)(hi:i<14):a1y L.env (a02 [some (nmO i)]) 122 (.map 0) (.str (a2h i)) (.bool true)=some (.set 0 (nmO (i+1))):=by
 have h:=c8j i hi;unfold a1y;have e:a8x L.env (a02 [some (nmO i)]) 122 (.map 0) (.str (a2h i))=match a1v (aeq L.env 6 9) (.str (a2h i)) (a7u i) 0 with
  |some (some j)=>match(a7u i)[j]? with
   |some k0=>bif d53 k0 (.str (a2h i))then some (0,a7u i,List.replicate i (AV.bool true),List.range i,i,some j)else none
   |none=>none
  |some none=>some (0,a7u i,List.replicate i (AV.bool true),List.range i,i,none)
  |none=>none:=by kernel_rfl
 rw[e,h];simp only[nmO,c1j,f2r,List.replicate_succ']
theorem c1i(i:Nat):a0y (some (nmO i))=[]:=by
 simp only[nmO,a0y,a7u];have h1:∀l:List Nat,a0d (l.map λj=>AV.str (a2h j))=[]:=by intro l;induction l with|nil=>rfl|cons a l ih=>simp[a0d,refs,ih]
 have h2:∀n,a0d (List.replicate n (AV.bool true))=[]:=by intro n;induction n with|zero=>rfl|succ n ih=>simp[f2b,a0d,refs,ih]
 rw[h1,h2];rfl
theorem d64(π:Nat→Option Nat)(i:Nat):a0e π (nmO i)=nmO i:=by have h:=c1i i;simp only[nmO,a0y,f1o]at h;simp only[nmO,a0e,a2t π h.1,a2t π h.2]
theorem d34(c:Cir)(h:c.wf):sem L.env Mf 172 [.agg c.enc] []=some (.int .i64 0,[]):=by
 have hn:=h.len;have jv:c.names.length=c.nodes.length:=by rw[h.names];simp
 simp only[Cir.enc]
 (refine sv Tryz.f172 ?_;simp only[Tryz.f172,gS])
 (repeat first|simp only[ww]|(apply xa;simp+decide only[go_sem];rfl;kernel_rfl))
 have e0:AObj.map [] [] [] 0=nmO 0:=by rfl
 refine a0l (σ:=Nat) kp172_0 (λi=>[(3,.map 0),(8,sl c.mc (c.names.map a1c)),(9,.int .i64 c.names.length),(10,.int .i64 i)])
  (λi=>[some (nmO i)]) (λi=>c.names.length-i) (λi=>i≤c.names.length) 0 ?_ (e8e _) ?_
 ·rw[e0]
  (simp+decide only[go_sem,a01,a00,c1i,d64]<;>rfl)
 ·intro i hi;by_cases aj:i<c.names.length
  ·have hx:c.names[i]?=some (a2h i):=by rw[h.names,e8a,f2d (by omega)];rfl
   have c1:(i:Int)<c.names.length:=by omega
   have hw:=wI1 (n:=i) (by omega);have jC:=λH=>c1t (d:=false) H i (by omega);have p9:=c8i i (by omega);have kg:=c8h i (by omega)
   (repeat first|simp only[ww]|(apply xa;simp+decide only[go_sem,c1,aj,hx,hw,jC,p9,kg];rfl;kernel_rfl))
   refine a25 (i+1) ?_ (by omega) (by omega)
   (simp+decide only[go_sem,a01,a00,c1i,d64]<;>rfl)
  ·obtain rfl:i=c.names.length:=by omega
   have c1:¬(c.names.length:Int)<c.names.length:=by omega
   (repeat first|simp only[ww]|(apply xa;simp+decide only[go_sem,c1];rfl;kernel_rfl))
   (apply fqb;simp+decide only[go_sem]<;>rfl)
theorem a45(c:Cir):a0d [.agg c.enc]=[]:=by simp only[a06,a0n,Cir.enc,go_sem]
theorem c5a{d:Bool}(H:a03)(c:Cir)(h:c.wf):a0a L.env d (sem L.env Mf) (.func (.func 172) [] []) [.agg c.enc] H=some (.int .i64 0,H,[]):=a04 (by kernel_rfl) (by kernel_rfl) rfl (a45 c) (d34 c h) rfl
theorem d2i(c:Cir)(h:c.wf):sem L.env Mf 134 [.agg c.enc] []=some (.int .i64 0,[]):=by
 have hn:=h.len;have jv:c.names.length=c.nodes.length:=by rw[h.names];simp
 have dF:=h.outl;have c1:¬(16384:Int)<c.nodes.length:=by omega
 have c2:¬(16384:Int)<c.outs.length:=by omega
 have cK:=λH x hx=>c8e (d:=false) H c h x hx;have iR:=λH=>c5a (d:=false) H c h;have mh:=λH=>a7t (d:=true) H c;have n5:=λH=>b9y (d:=true) H c c.oc c.outs (by omega) h.outs;have al:c.enc.length=4:=rfl;simp only[Cir.enc]at cK iR mh n5⊢
 (refine sv Tryz.f134 ?_;simp only[Tryz.f134,gS])
 (repeat first|simp only[ww]|(apply xa;simp+decide only[go_sem,c1,c2,jv];rfl;kernel_rfl))
 refine a0l (σ:=Nat) kp134_1 (λi=>[(1,.ptr 0 0 0),(36,sl c.nc (c.nodes.map Nd.enc)),(37,.int .i64 c.nodes.length),(38,.int .i64 i)])
  (λi=>[some (.row 4 [[sl c.nc (c.nodes.map Nd.enc),sl c.mc (c.names.map a1c),.nilslice,sl c.oc (c.outs.map a0f)]])]) (λi=>c.nodes.length-i) (λi=>i≤c.nodes.length) 0 ?_ (e8e _) ?_
 ·(simp+decide only[go_sem,a01,a00]<;>rfl)
 ·intro i hi;by_cases aj:i<c.nodes.length
  ·obtain⟨x,hx⟩:∃x,c.nodes[i]?=some x:=⟨_,z9e aj⟩
   have c1:(i:Int)<c.nodes.length:=by omega
   have hw:=wI1 (n:=i) (by omega);have gX:=λH=>cK H x (c11 hx);simp only[Nd.enc]at gX
   (repeat first|simp only[ww]|(apply xa;simp+decide only[go_sem,c1,aj,hx,hw,gX];rfl;kernel_rfl))
   refine a25 (i+1) ?_ (by omega) (by omega)
   (simp+decide only[go_sem,a01,a00]<;>rfl)
  ·obtain rfl:i=c.nodes.length:=by omega
   have c1:¬(c.nodes.length:Int)<c.nodes.length:=by omega
   (repeat first|simp only[ww]|(apply xa;simp+decide only[go_sem,c1,iR];rfl;kernel_rfl))
   refine a0l (σ:=Nat) kp134_3 (λi=>[(1,.ptr 0 0 0),(55,.nilslice),(56,.int .i64 0),(57,.int .i64 0)])
    (λi=>[some (.row 4 [[sl c.nc (c.nodes.map Nd.enc),sl c.mc (c.names.map a1c),.nilslice,sl c.oc (c.outs.map a0f)]])]) (λi=>0) (λi=>True) 0 ?_ trivial ?_
   ·(simp+decide only[go_sem,a01,a00]<;>rfl)
   ·intro i _
    (repeat first|simp only[ww]|(apply xa;simp+decide only[go_sem,mh,n5];rfl;kernel_rfl))
    (apply fqb;simp+decide only[go_sem]<;>rfl)
theorem c4t{d:Bool}(H:a03)(c:Cir)(h:c.wf):a0a L.env d (sem L.env Mf) (.func (.func 134) [] []) [.agg c.enc] H=some (.int .i64 0,H,[]):=a04 (by kernel_rfl) (by kernel_rfl) rfl (a45 c) (d2i c h) rfl
theorem b43{d:Bool}(H:a03)(k:Nat)(hk:k<256):a0a L.env d (sem L.env Mf) (.func (.func 61) [] []) [.int .u8 k] H=some (.bool (a1n k),H,[]):=a04 (by kernel_rfl) (by kernel_rfl) rfl rfl (d9i k hk) rfl
def foE(fo:List (List (Nat×Nat))):List (List (List AV)):=fo.map (·.map a7x)
theorem a5u(fo:List (List (Nat×Nat))):(foE fo).length=fo.length:=by unfold foE;simp
theorem a75{fo:List (List (Nat×Nat))}{j:Nat}{L:List (Nat×Nat)}(h:fo[j]?=some L):(foE fo)[j]?=some (L.map a7x):=by unfold foE;rw[e8a,h];rfl
theorem d06(fo:List (List (Nat×Nat)))(j:Nat)(L:List (Nat×Nat))(i k:Nat):(foE fo).set j (L.map a7x++[a7x (i,k)])=foE (fo.set j (L++[(i,k)])):=by unfold foE;rw[f1f,e8l];rfl
def J0(c:Cir)(n:Nat)(F:Frm)(H:a03):Prop:=∃i b aq fo,n=c.nodes.length-i∧i≤c.nodes.length∧
 F=[(3,.slice b 0 c.nodes.length (some c.nodes.length)),(4,c39 c),(18,sl c.nc (c.nodes.map Nd.enc)),(19,.int .i64 c.nodes.length),(20,.int .i64 i)]∧Two H b 2 aq (λ_=>none) (foE fo)∧FoOk c.nodes i 0 fo
def J2(c:Cir)(i:Nat)(x:Nd)(n:Nat)(F:Frm)(H:a03):Prop:=∃k b aq fo,n=x.ins.length-k∧k≤x.ins.length∧
 F=[(3,.slice b 0 c.nodes.length (some c.nodes.length)),(4,c39 c),(5,.int .i64 i),(18,sl c.nc (c.nodes.map Nd.enc)),(19,.int .i64 c.nodes.length),(20,.int .i64 i),(26,sl x.c (x.ins.map a0f)),(27,.int .i64 x.ins.length),(28,.int .i64 k)]∧Two H b 2 aq (λ_=>none) (foE fo)∧FoOk c.nodes i k fo
def cpT(fo:List (List (Nat×Nat)))(t:Nat):Nat→Option Nat:=λj=>if j<t then(fo[j]?).map List.length else none
def J4(c:Cir)(fo:List (List (Nat×Nat)))(n:Nat)(F:Frm)(H:a03):Prop:=∃t b aq,n=c.nodes.length-t∧t≤c.nodes.length∧
 F=[(3,.slice b 0 c.nodes.length (some c.nodes.length)),(51,.slice b 0 c.nodes.length (some c.nodes.length)),(52,.int .i64 c.nodes.length),(53,.int .i64 t)]∧Two H b 2 aq (cpT fo t) (foE fo)
theorem d20(H:a03)(n:Nat)(b:Nat)(h:a02 H b=some (.row 1 (List.replicate n [.nilslice]))):Two H b 2 (λ_=>0) (λ_=>none) (foE (List.replicate n [])):=by
 have d9:foE (List.replicate n [])=List.replicate n []:=by unfold foE;rw[f3c];rfl
 rw[d9];have cK:∀(j:Nat) (f:List (List AV)),(List.replicate n ([]:List (List AV)))[j]?=some f→f=[]:=by
  intro j f hf;rw[f0t]at hf;split at hf
  ·cases hf;rfl
  ·cases hf
 refine⟨?_,λj f hf aw=>absurd (cK j f hf) aw,λi j f g hf _ aw=>absurd (cK i f hf) aw,λf hf=>?_⟩
 ·rw[h]
  congr 2
  apply e9p;intro j;unfold a2b;rw[e9g,f0t,f0t];split<;>rfl
 ·rw[(List.mem_replicate.1 hf).2];exact FlatR.nil
theorem d4h(fo:List (List (Nat×Nat))):cpT fo 0=λ_=>none:=by funext j;simp[cpT]
theorem d4i{fo:List (List (Nat×Nat))}{t:Nat}{L:List (Nat×Nat)}(h:fo[t]?=some L):(λi=>if i=t then some L.length else cpT fo t i)=cpT fo (t+1):=by
 funext j
 unfold cpT;by_cases h1:j=t
 ·subst h1;simp[h]
 ·by_cases h2:j<t
  ·simp[h1,h2,show j<t+1 by omega]
  ·simp[h1,h2,show ¬j<t+1 by omega]
theorem d0t:sem L.env Mf 176 [.nilslice] []=some (.nilslice,[]):=by
 (refine sv Tryz.f176 ?_;simp only[Tryz.f176,gS])
 (repeat first|simp only[ww]|(apply xa;simp+decide only[go_sem];rfl;kernel_rfl))
 (apply fqb;simp+decide only[go_sem]<;>rfl)
theorem d4r(n:Nat)(aa:List (List AV))(hf:FlatR aa):sem L.env Mf 176 [.slice 0 0 n none] [some (.row 2 aa)]=some (.slice 0 0 n (some n),[some (.row 2 aa)]):=by
 have h1:=λπ=>a05 π hf
 (refine sv Tryz.f176 ?_;simp only[Tryz.f176,gS])
 (repeat first|simp only[ww]|(apply xa;simp+decide only[go_sem];rfl;kernel_rfl))
 (apply fqb;simp+decide only[go_sem,h1]<;>rfl)
theorem c2b{d:Bool}(H:a03):a0a L.env d (sem L.env Mf) (.func (.func 176) [] []) [.nilslice] H=some (.nilslice,H,[]):=a04 (by kernel_rfl) (by kernel_rfl) rfl rfl d0t rfl
theorem c6a{d:Bool}{H:a03}{b n:Nat}{aa:List (List AV)}(hf:FlatR aa)(hb:a02 H b=some (.row 2 aa)):a0a L.env d (sem L.env Mf) (.func (.func 176) [] []) [.slice b 0 n none] H=some (.slice b 0 n (some n),H,[b]):=by have h:=a2y (E:=L.env) (ag:=d) (call:=sem L.env Mf) (g:=176) (fs:=[]) (cs:=[]) (ar:=[.slice b 0 n none]) (H:=H) (b:=b) (by kernel_rfl) (by kernel_rfl) rfl hb (a0k hf) (FlatO.row hf) rfl (au:=[AV.slice 0 0 n none]) (by simp only[e7l,e7i,e12,e7j,a1p]) (d4r n aa hf) (FlatO.row hf) (a4r b 0 _ n _);rw[a6u hb]at h;exact h
theorem d0e(c:Cir)(h:c.wf):∃r:AV×a03,(∃fo,FoOk c.nodes c.nodes.length 0 fo∧r=(AV.islice ((foE fo).mapIdx λj f=>[slF (cpT fo c.nodes.length j) f]) (some c.nodes.length),[]))∧sem L.env Mf 135 [.agg c.enc] []=some r:=by
 have hn:=h.len;have mh:=λH=>a7t (d:=false) H c;have aK:c.nodes.length≤1000000000:=by omega
 have hov:refs (c39 c)=[]:=rfl;have bU:∀π,ren π (c39 c)=c39 c:=λπ=>a0w π _ rfl;have eg:=λH m hm=>b96 (d:=false) H c m hm;generalize hO:c39 c=O at mh hov bU eg;simp only[Cir.enc]at mh⊢
 (refine svE Tryz.f135 ?_;simp only[Tryz.f135,gS])
 (repeat first|simp only[ww]|(apply xa;simp+decide only[go_sem,mh,aK];rfl;kernel_rfl))
 refine a3j kp135_0 (J0 c) (c.nodes.length-0) ?_ ?_
 ·refine a61 (d20 _ c.nodes.length 1 rfl) ?_ (by rw[a5u];simp;omega) ?_
  ·exact .inl (by simp+decide only[go_sem,hov])
  ·intro π b' aL H1 hb hT;refine⟨0,b',aL,_,rfl,e8e _,?_,hT,FoOk.zero _⟩;simp+decide only[go_sem,hb,bU,hO]<;>rfl
 ·rintro n F H ⟨i,b,aq,fo,rfl,hi,rfl,hT,hF⟩
  by_cases aj:i<c.nodes.length
  ·obtain⟨x,hx⟩:∃x,c.nodes[i]?=some x:=⟨_,z9e aj⟩
   have c1:(i:Int)<c.nodes.length:=by omega
   have hw:=wI1 (n:=i) (by omega);have cj:=a1a hT.top;have rg:=a20 hx;rw[hO]
   (repeat first|simp only[ww]|(apply xa;simp+decide only[go_sem,c1,aj,hx,hw,a6l,a64,b0c,b5b,a7w];rfl;kernel_rfl))
   refine a3j kp135_2 (J2 c i x) (x.ins.length-0) ?_ ?_
   ·refine a61 (hT.more) ?_ (by rw[a5u,hF.len];omega) ?_
    ·exact .inl (by simp+decide only[go_sem,hov])
    ·intro π b' aL H1 hb hT;refine⟨0,b',aL,_,rfl,e8e _,?_,hT,hF⟩;simp+decide only[go_sem,hb,bU,hO]<;>rfl
   ·rintro n F H ⟨k,b,aq,fo,rfl,hk,rfl,hT,hF⟩
    rw[hO];by_cases cD:k<x.ins.length
    ·obtain⟨m,hm⟩:∃m,x.ins[k]?=some m:=⟨_,z9e cD⟩
     have db:=h.ins x (c11 hx) m (c11 hm);have rJ:=λH=>eg H m db;have c2:(k:Int)<x.ins.length:=by omega
     have dp:=h.insl (c11 hx);have gM:=wI1 (n:=k) (by omega);have cj:=a1a hT.top;have cW:=hT.top;have fB:m<fo.length:=by rw[hF.len];exact db
     obtain⟨L,hL⟩:∃L,fo[m]?=some L:=⟨_,z9e fB⟩
     have aO:=a50 (aq:=aq) (cp:=λ_=>none) (a75 hL);have bK:=hF.step (by rw[rg];exact hm) hL;have bT:(a2b aq (λ_=>none) (foE fo)).length=c.nodes.length:=by rw[a2j,a5u,hF.len]
     cases L with
     |nil=>
      simp only[e7j,slV]at aO
      (repeat first|simp only[ww]|(apply xa;simp+decide only[go_sem,c2,cD,hm,gM,rJ,cj,cW,db,aO,a6l,a64,a73,b0c,b5b,b8v,a7w,a9o,e7m,e9h,e7l,bT];rfl;kernel_rfl))
      refine a0x (x.ins.length-(k+1)) (by omega) ?_;have eG:=hT.app1 (o:=some (.row 2 [a7x (i,k)])) (x:=a7x (i,k)) (a75 hL) rfl rfl;have e2:(foE fo).set m [a7x (i,k)]=foE (fo.set m ([]++[(i,k)])):=d06 fo m [] i k;rw[e2]at eG;refine a61 eG ?_ (by rw[a5u,f0l,hF.len];omega) ?_
      ·exact .inl (by simp+decide only[go_sem,hov])
      ·intro π b' aL H1 hb hT;refine⟨k+1,b',aL,_,rfl,cD,?_,hT,bK⟩;simp+decide only[go_sem,hb,bU,hO]<;>rfl
     |cons a r=>
      simp only[e12,slV]at aO;have bc:=hT.sub m _ (a75 hL) (by simp);obtain⟨s1,s2⟩:=bc;have s3:=a1a s1;simp only[e12]at s1;have qR:r.length+1+1≤1000000000:=by have:=hF.total hL (h.len) (λy hy=>h.insl hy);simp only[e7g]at this;omega
      (repeat first|simp only[ww]|(apply xa;simp+decide only[go_sem,c2,cD,hm,gM,rJ,cj,cW,db,aO,a6l,a64,a73,c5o,f0l,s1,s2,s3,qR,b0c,b5b,b8v,a7w,a9o,e7m,e9h,e7l,bT];rfl;kernel_rfl))
      refine a0x (x.ins.length-(k+1)) (by omega) ?_;have eG:=hT.app2 (o:=some (.row 2 [a7x (i,k)])) (x:=a7x (i,k)) (a75 hL) rfl rfl;have e2:(foE fo).set m (a7x a::List.map a7x r++[a7x (i,k)])=foE (fo.set m (a::r++[(i,k)])):=d06 fo m (a::r) i k;rw[e2]at eG;rw[c10]at eG;refine a61 eG ?_ (by rw[a5u,f0l,hF.len];omega) ?_
      ·exact .inl (by simp+decide only[go_sem,hov])
      ·intro π b' aL H1 hb hT;refine⟨k+1,b',aL,_,rfl,cD,?_,hT,bK⟩;simp+decide only[go_sem,hb,bU,hO]<;>rfl
    ·obtain rfl:k=x.ins.length:=by omega
     have c2:¬(x.ins.length:Int)<x.ins.length:=by omega
     (repeat first|simp only[ww]|(apply xa;simp+decide only[go_sem,c2,hw];rfl;kernel_rfl))
     refine a0x (c.nodes.length-(i+1)) (by omega) ?_;refine a61 hT ?_ (by rw[a5u,hF.len];omega) ?_
     ·exact .inl (by simp+decide only[go_sem,hov])
     ·intro π b' aL H1 hb hT;refine⟨i+1,b',aL,_,rfl,by omega,?_,hT,hF.next (by rw[rg])⟩;simp+decide only[go_sem,hb,bU,hO]<;>rfl
  ·obtain rfl:i=c.nodes.length:=by omega
   have c1:¬(c.nodes.length:Int)<c.nodes.length:=by omega
   rw[hO]
   (repeat first|simp only[ww]|(apply xa;simp+decide only[go_sem,c1];rfl;kernel_rfl))
   refine a3j kp135_4 (J4 c fo) (c.nodes.length-0) ?_ ?_
   ·refine a61 hT ?_ (by rw[a5u,hF.len];omega) ?_
    ·exact .inr (by simp+decide only[go_sem,hov])
    ·intro π b' aL H1 hb hT;refine⟨0,b',aL,rfl,e8e _,?_,by rw[d4h];exact hT⟩;simp+decide only[go_sem,hb,bU,hO]<;>rfl
   ·rintro n F H ⟨t,b,aq,rfl,ht,rfl,hT⟩
    by_cases dY:t<c.nodes.length
    ·have c2:(t:Int)<c.nodes.length:=by omega
     have gM:=wI1 (n:=t) (by omega);have cj:=a1a hT.top;have cW:=hT.top;obtain⟨L,hL⟩:∃L,fo[t]?=some L:=⟨_,z9e (by rw[hF.len];exact dY)⟩
     have aO:=a50 (aq:=aq) (cp:=cpT fo t) (a75 hL);have tK:cpT fo t t=none:=by simp[cpT]
     have bT:(a2b aq (cpT fo t) (foE fo)).length=c.nodes.length:=by rw[a2j,a5u,hF.len]
     rw[tK]at aO;have eP:∀H1,H1=H.set b (some (.row 1 ((a2b aq (cpT fo t) (foE fo)).set t [slV (aq t) (some L.length) (L.map a7x)])))→Two H1 b 2 aq (cpT fo (t+1)) (foE fo):=by
      intro H1 ph;have:=hT.clip (H1:=H1) (a75 hL) (by rw[ph,b1c cj]) (λc hc=>by rw[ph,a37 (f2x hc)])
      rwa [d4i hL]at this
     cases L with
     |nil=>
      simp only[e7j,slV]at aO;have cF:=λH=>c2b (d:=false) H
      (repeat first|simp only[ww]|(apply xa;simp+decide only[go_sem,c2,dY,gM,cj,cW,aO,cF,bT,f0l];rfl;kernel_rfl))
      refine a0x (c.nodes.length-(t+1)) (by omega) ?_;refine a61 (eP _ rfl) ?_ (by rw[a5u,hF.len];omega) ?_
      ·exact .inr (by simp+decide only[go_sem,hov])
      ·intro π b' aL H1 hb hT;refine⟨t+1,b',aL,rfl,by omega,?_,hT⟩;simp+decide only[go_sem,hb,bU,hO]<;>rfl
     |cons a r=>
      simp only[e12,slV]at aO;obtain⟨s1,s2⟩:=hT.sub t _ (a75 hL) (by simp);have cF:=c6a (d:=false) (H:=H) (b:=aq t) (n:=r.length+1) (hT.flat _ (c11 (a75 hL))) s1
      (repeat first|simp only[ww]|(apply xa;simp+decide only[go_sem,c2,dY,gM,cj,cW,aO,cF,bT,f0l];rfl;kernel_rfl))
      refine a0x (c.nodes.length-(t+1)) (by omega) ?_;refine a61 (eP _ (by simp only[e12,slV,c10,e7g])) ?_ (by rw[a5u,hF.len];omega) ?_
      ·exact .inr (by simp+decide only[go_sem,hov])
      ·intro π b' aL H1 hb hT;refine⟨t+1,b',aL,rfl,by omega,?_,hT⟩;simp+decide only[go_sem,hb,bU,hO]<;>rfl
    ·obtain rfl:t=c.nodes.length:=by omega
     have c2:¬(c.nodes.length:Int)<c.nodes.length:=by omega
     have hz:=hT.frz (some c.nodes.length);rw[a5u,hF.len]at hz
     (repeat first|simp only[ww]|(apply xa;simp+decide only[go_sem,c2];rfl;kernel_rfl))
     refine b7p (vs:=[.slice b 0 c.nodes.length (some c.nodes.length)]) (r:=(_,[])) (by simp+decide only[go_sem]) ?_ ⟨fo,hF,rfl⟩;show a1l false 0 (.slice b 0 c.nodes.length (some c.nodes.length)) H=_;rw[d0a,hz];rfl
def foR(c:Cir)(fo:List (List (Nat×Nat))):List (List AV):=(foE fo).mapIdx λj f=>[slF (cpT fo c.nodes.length j) f]
theorem d93{c:Cir}{fo:List (List (Nat×Nat))}{j:Nat}{L:List (Nat×Nat)}(h:fo[j]?=some L)(hj:j<c.nodes.length):(foR c fo)[j]?=some [slF (some L.length) (L.map a7x)]:=by unfold foR;rw[e9g,a75 h];simp[cpT,hj,h]
theorem c26(c:Cir)(h:c.wf):∃fo,FoOk c.nodes c.nodes.length 0 fo∧∀(d:Bool) (H:a03),a0a L.env d (sem L.env Mf) (.func (.func 135) [] []) [.agg c.enc] H=some (.islice (foR c fo) (some c.nodes.length),H,[]):=by obtain⟨r,⟨fo,h1,rfl⟩,h2⟩:=d0e c h;exact⟨fo,h1,λd H=>a04 (by kernel_rfl) (by kernel_rfl) rfl (a45 c) h2 rfl⟩
def kcb(c:Cir):Option AObj:=some (.row 4 [[sl c.nc (c.nodes.map Nd.enc),sl c.mc (c.names.map a1c),.nilslice,sl c.oc (c.outs.map a0f)]])
attribute [go_sem] kcb
def JL2(c:Cir)(fo:List (List (Nat×Nat)))(n:Nat)(F:Frm)(H:a03):Prop:=∃(out left ready:List Nat) (done:Nat),n=c.nodes.length-done∧
 F=[(1,.ptr 0 0 0),(5,.slice 1 0 c.nodes.length (some c.nodes.length)),(6,.slice 2 0 c.nodes.length (some c.nodes.length)),(7,grV 3 (ready.map a0f)),(10,.islice (foR c fo) (some c.nodes.length)),(11,.int .i64 done)]∧
 H=[kcb c,some (.row 1 (out.map a0f)),some (.row 1 (left.map a0f))]++grH 1 (ready.map a0f)∧Kahn c.nodes left ready done []∧out.length=c.nodes.length∧(∀v∈out,v≤300*done)∧Lev c.nodes out ready done []
def JL4(c:Cir)(fo:List (List (Nat×Nat)))(done x:Nat)(L:List (Nat×Nat))(n:Nat)(F:Frm)(H:a03):Prop:=∃(out left ready:List Nat) (q:Nat),n=L.length-q∧q≤L.length∧
 F=[(1,.ptr 0 0 0),(5,.slice 1 0 c.nodes.length (some c.nodes.length)),(6,.slice 2 0 c.nodes.length (some c.nodes.length)),(7,grV 3 (ready.map a0f)),(10,.islice (foR c fo) (some c.nodes.length)),(11,.int .i64 (done+1:Nat)),(12,.int .i64 x),(76,.islice (L.map a7x) (some L.length)),(77,.int .i64 L.length),(78,.int .i64 q)]∧
 H=[kcb c,some (.row 1 (out.map a0f)),some (.row 1 (left.map a0f))]++grH 1 (ready.map a0f)∧Kahn c.nodes left ready done (L.take q)∧ready[done]?=some x∧out.length=c.nodes.length∧(∀v∈out,v≤300*done+q)∧Lev c.nodes out ready done (L.take q)
theorem e9d(n:Nat):List.replicate n [AV.int .i64 0]=(List.replicate n 0).map a0f:=by rw[f3c];rfl
theorem d58(a b:Nat):d59 (.int .i64 a) [.int .i64 (b:Int)]=some (.int .i64 ((max a b:Nat):Int)):=by
 simp only[d59];by_cases h:(b:Int)>a
 ·rw[e8j h];congr 2;omega
 ·rw[e8g h];congr 2;omega
theorem c92(c:Cir)(h:c.wf):∃r:AV×a03,(∃lv:List Nat,lv.length=c.nodes.length∧(∀v∈lv,v≤100000)∧Rises c.nodes lv∧r=(.tuple [.islice (lv.map a0f) (some c.nodes.length),.int .i64 0],[]))∧sem L.env Mf 84 [.agg c.enc] []=some r:=by
 have hn:=h.len;obtain⟨fo,d9,lI⟩:=c26 c h;have lI:=lI false;have ef:=λH=>c4t (d:=false) H c h;have aK:c.nodes.length≤1000000000:=by omega
 have uE:a0y (kcb c)=[]:=by simp only[go_sem]
 simp only[Cir.enc]at lI ef⊢
 (refine svE Tryz.f84 ?_;simp only[Tryz.f84,gS])
 (repeat first|simp only[ww]|(apply xa;simp+decide only[go_sem,ef,aK];rfl;kernel_rfl))
 refine a0l (σ:=Nat) kp84_0 (λi=>[(1,.ptr 0 0 0),(5,.slice 1 0 c.nodes.length (some c.nodes.length)),(6,.slice 2 0 c.nodes.length (some c.nodes.length)),(7,grV 3 ((a3t c.nodes i).map a0f)),(29,sl c.nc (c.nodes.map Nd.enc)),(30,.int .i64 c.nodes.length),(31,.int .i64 i)])
  (λi=>[kcb c,some (.row 1 ((List.replicate c.nodes.length 0).map a0f)),some (.row 1 ((a36 c.nodes i).map a0f))]++grH 1 ((a3t c.nodes i).map a0f)) (λi=>c.nodes.length-i) (λi=>i≤c.nodes.length) 0 ?_ (e8e _) ?_
 ·rw[c1q,show a3t c.nodes 0=[]from rfl]
  (simp+decide only[go_sem,a01,a00,e9d,e7j,a0p,a0q,a1q,a2z]<;>rfl)
 ·intro i hi;by_cases aj:i<c.nodes.length
  ·obtain⟨x,hx⟩:∃x,c.nodes[i]?=some x:=⟨_,z9e aj⟩
   have c1:(i:Int)<c.nodes.length:=by omega
   have hw:=wI1 (n:=i) (by omega);have k14:=h.kind x (c11 hx);have bO:=λH=>b43 (d:=false) H x.kind (by omega);have bj:(a36 c.nodes i).length=c.nodes.length:=by simp[a36]
   have gh:(a36 c.nodes i)[i]?=some 0:=by rw[a5g aj];simp
   have bT:=c52 c.nodes i;have fK:=b8z c.nodes i;have aE:=b3f aj;have io:(a36 c.nodes (i+1))[i]?=some (a9n c.nodes i):=by rw[a5g aj];simp
   have aU:a9n c.nodes i=if a1n x.kind=true then x.ins.length else 0:=by unfold a9n;rw[a16 hx,a20 hx]
   have eU:((a36 c.nodes i).map a0f).set i [AV.int .i64 (a9n c.nodes i)]=(a36 c.nodes (i+1)).map a0f:=by rw[←aE,f1f];rfl
   by_cases cN:a1n x.kind=true
   ·rw[e8j cN]at aU;rw[aU]at eU io fK;by_cases hz:x.ins.length=0
    ·rw[e8j hz]at fK;have eJ:(x.ins.length:Int)=0:=by omega
     rw[hz]at eU io;generalize a3t c.nodes i=l at bT fK;cases l with
     |nil=>
      (repeat first|simp only[ww]|(apply xa;simp+decide only[go_sem,c1,aj,hx,hw,bO,cN,bj,gh,eU,io,hz,e7j,a0p,a0q];rfl;kernel_rfl))
      refine a25 (i+1) ?_ (by omega) (by omega);rw[fK]
      (simp+decide only[go_sem,a01,a00,e7j,e7l,e12,a09,a0b,e8c,a1q,a2z]<;>rfl)
     |cons a r=>
      simp only[e7g]at bT;have gt:r.length+1+1≤1000000000:=by omega
      (repeat first|simp only[ww]|(apply xa;simp+decide only[go_sem,c1,aj,hx,hw,bO,cN,bj,gh,eU,io,hz,e12,a09,a0b,gt,e7g];rfl;kernel_rfl))
      refine a25 (i+1) ?_ (by omega) (by omega);rw[fK]
      (simp+decide only[go_sem,a01,a00,e9h,e12,a09,a0b,a1q,a2z,e7g]<;>rfl)
    ·rw[e8g hz]at fK;have eJ:¬(x.ins.length:Int)=0:=by omega
     generalize a3t c.nodes i=l at bT fK;cases l with
     |nil=>
      (repeat first|simp only[ww]|(apply xa;simp+decide only[go_sem,c1,aj,hx,hw,bO,cN,bj,gh,eU,io,eJ,e7j,a0p,a0q];rfl;kernel_rfl))
      refine a25 (i+1) ?_ (by omega) (by omega);rw[fK]
      (simp+decide only[go_sem,a01,a00,e7j,a0p,a0q,a1q,a2z]<;>rfl)
     |cons a r=>
      (repeat first|simp only[ww]|(apply xa;simp+decide only[go_sem,c1,aj,hx,hw,bO,cN,bj,gh,eU,io,eJ,e12,a09,a0b];rfl;kernel_rfl))
      refine a25 (i+1) ?_ (by omega) (by omega);rw[fK]
      (simp+decide only[go_sem,a01,a00,e12,a09,a0b,a1q,a2z]<;>rfl)
   ·have cN:a1n x.kind=false:=by simpa using cN
    rw[cN]at aU;have aU:a9n c.nodes i=0:=aU;rw[aU,e8j rfl]at fK;have bS:=c1r aj aU
    ·
     generalize a3t c.nodes i=l at bT fK;cases l with
     |nil=>
      (repeat first|simp only[ww]|(apply xa;simp+decide only[go_sem,c1,aj,hx,hw,bO,cN,bj,gh,e7j,a0p,a0q];rfl;kernel_rfl))
      refine a25 (i+1) ?_ (by omega) (by omega);rw[fK,←bS]
      (simp+decide only[go_sem,a01,a00,e7j,e7l,e12,a09,a0b,e8c,a1q,a2z]<;>rfl)
     |cons a r=>
      simp only[e7g]at bT;have gt:r.length+1+1≤1000000000:=by omega
      (repeat first|simp only[ww]|(apply xa;simp+decide only[go_sem,c1,aj,hx,hw,bO,cN,bj,gh,e12,a09,a0b,gt,e7g];rfl;kernel_rfl))
      refine a25 (i+1) ?_ (by omega) (by omega);rw[fK,←bS]
      (simp+decide only[go_sem,a01,a00,e9h,e12,a09,a0b,a1q,a2z,e7g]<;>rfl)
  ·obtain rfl:i=c.nodes.length:=by omega
   have c1:¬(c.nodes.length:Int)<c.nodes.length:=by omega
   have hK:=Kahn.start c.nodes;generalize a3t c.nodes c.nodes.length=ready at hK;generalize a36 c.nodes c.nodes.length=left at hK
   (repeat first|simp only[ww]|(apply xa;simp+decide only[go_sem,c1,lI];rfl;kernel_rfl))
   refine a3j kp84_2 (JL2 c fo) (c.nodes.length-0) ?_ ?_
   ·refine⟨_,_,?_,List.replicate c.nodes.length 0,left,ready,0,rfl,rfl,rfl,hK,by simp,by simp,Lev.start _ _ _⟩;cases ready with
    |nil=>(simp+decide only[go_sem,a01,a00,e7j,a0p,a0q,a1q,a2z]<;>rfl)
    |cons a r=>(simp+decide only[go_sem,a01,a00,e12,a09,a0b,a1q,a2z]<;>rfl)
   ·rintro n F H ⟨out,left,ready,done,rfl,rfl,rfl,hK,dF,fM,hV⟩
    have aw:ready≠[]:=by
     rintro rfl
     have nX:done=0:=by have:=hK.dle;simpa using this
     subst nX;have h1:c.nodes.length≤0:=hK.all h.acyc;have h2:=h.pos;omega
    have gi:=hK.bound;have i7:=hK.dle;have cY:ready.map a0f≠[]:=by simpa using aw
    rw[a7e 3 cY,a7f 1 cY,c10];have mY:=wI1 (n:=done) (by omega);have bj:=hK.ll;by_cases aj:done<ready.length
    ·obtain⟨x,hx⟩:∃x,ready[done]?=some x:=⟨_,z9e aj⟩
     have oI:=hK.rn x (c11 hx);have c1:(done:Int)<ready.length:=by omega
     obtain⟨L,hL⟩:∃L,fo[x]?=some L:=⟨_,z9e (by rw[d9.len];exact oI)⟩
     have uj:=d9.node hL (e9k _);have uN:=d9.total hL hn (λy hy=>h.insl hy);have ox:∀a,a<c.nodes.length→cnt L a=(a2q c.nodes a).count x:=λa ha=>by rw[d9.num x L hL a,e8j ha]
     have hg:=d93 hL oI;cases hLL:L with
     |nil=>
      subst hLL;simp only[e7j,slF]at hg
      (repeat first|simp only[ww]|(apply xa;simp+decide only[go_sem,c1,aj,hx,mY,hg];rfl;kernel_rfl))
      refine a0x (c.nodes.length-(done+1)) (by omega) ⟨_,_,?_,out,left,ready,done+1,rfl,rfl,rfl,hK.next hx ox,dF,λv hv=>by have:=fM v hv;omega,hV.next hx ox⟩;rw[a7e 3 cY,a7f 1 cY]
      (simp+decide only[go_sem,a01,a00,a1q,a2z]<;>rfl)
     |cons l0 lr=>
      rw[hLL]at hg;simp only[e12,slF]at hg;rw[←e12,←hLL]at hg;have uO:L.length≠0:=by rw[hLL];simp
      have uk:¬(L.length:Int)=0:=by omega
      have qR:(L.map a7x).length=L.length:=c10 ..
      (repeat first|simp only[ww]|(apply xa;simp+decide only[go_sem,c1,aj,hx,mY,hg,uk,qR];rfl;kernel_rfl))
      refine a3j kp84_4 (JL4 c fo done x L) (L.length-0) ?_ ?_
      ·refine⟨_,_,?_,out,left,ready,0,rfl,e8e _,rfl,rfl,by rw[e9l];exact hK,hx,dF,λv hv=>by have:=fM v hv;omega,by rw[e9l];exact hV⟩;rw[a7e 3 cY,a7f 1 cY]
       (simp+decide only[go_sem,a01,a00,a1q,a2z]<;>rfl)<;>rfl
      ·clear hK gi i7 cY bj fM dF hx aj c1 aw hV
       rintro n F H ⟨out,left,ready,q,rfl,hq,rfl,rfl,hK,hx,dF,fM,hV⟩
       have gi:=hK.bound;have nW:=(e7k.1 hx).1;have aw:ready≠[]:=by rintro rfl;simp at nW
       have cY:ready.map a0f≠[]:=by simpa using aw
       rw[a7e 3 cY,a7f 1 cY,c10];have bj:=hK.ll;have cI:=wI1 (n:=q) (by omega);by_cases kw:q<L.length
       ·obtain⟨l,hl⟩:∃l,L[q]?=some l:=⟨_,z9e kw⟩
        obtain⟨a,p⟩:=l;have jh:a<c.nodes.length:=uj (a,p) (c11 hl);obtain⟨y,hy⟩:∃y,c.nodes[a]?=some y:=⟨_,z9e jh⟩
        have c2:(q:Int)<L.length:=by omega
        have k14:=h.kind y (c11 hy);have bO:=λH=>b43 (d:=false) H y.kind (by omega);have ht:=a1d hl;have qb:(L.map a7x)[q]?=some [.int .i64 a,.int .i64 p]:=by rw[e8a,hl];rfl
        by_cases cN:a1n y.kind=true
        ·have lC:a1n (a0t c.nodes a)=true:=by rw[a16 hy];exact cN
         have jC:Pc.cnt (L.take q++[(a,p)]) a≤b8i c.nodes ready done a:=by refine Nat.le_trans ?_ (d7z hK.nd hx);rw[←ox a jh,←ht];unfold Pc.cnt;exact List.Sublist.count_le _ ((List.take_sublist _ _).map _)
         have iN:=hK.pos jh lC jC;have iR:a∉ready:=λhm=>by have:=(hK.zero a jh).1 hm;omega
         have mr:=hK.dec jh lC jC;rw[←ht]at mr;obtain⟨va,ga⟩:∃v,out[a]?=some v:=⟨_,z9e (by omega)⟩
         obtain⟨vx,jr⟩:∃v,out[x]?=some v:=⟨_,z9e (by omega)⟩
         obtain⟨w,hw⟩:∃v,left[a]?=some v:=⟨_,z9e (by omega)⟩
         have rq:left.getD a 0=w:=by rw[List.getD,hw];rfl
         rw[rq]at iN mr;have bx:=fM vx (c11 jr);have ba:=fM va (c11 ga);have oM:=wI1 (n:=vx) (by omega);have gM:IntKind.i64.wrap ((w:Int)-1)=((w-1:Nat):Int):=by
          have rp:w≤100000:=by have h1:=hK.eq a jh lC;rw[rq]at h1;have h2:b8i c.nodes ready done a≤(a2q c.nodes a).length:=List.length_filter_le _ _;rw[a20 hy]at h2;have h3:=h.insl (c11 hy);omega
          rw[w64 (by omega) (by omega)];omega
         have rN:d59 (.int .i64 va) [.int .i64 ((vx+1:Nat):Int)]=some (.int .i64 ((max va (vx+1):Nat):Int)):=d58 _ _;have rB:(out.map a0f).set a [AV.int .i64 ((max va (vx+1):Nat):Int)]=(out.set a (max va (vx+1))).map a0f:=by rw[f1f];rfl
         have rC:(left.map a0f).set a [AV.int .i64 ((w-1:Nat):Int)]=(left.set a (w-1)).map a0f:=by rw[f1f];rfl
         have rY:(left.set a (w-1))[a]?=some (w-1):=by rw[e8n];simp;omega
         have bV:(left.set a (w-1)).length=c.nodes.length:=by rw[f0l];exact bj
         have oU:(out.set a (max va (vx+1))).length=c.nodes.length:=by rw[f0l];exact dF
         have nw:∀v∈out.set a (max va (vx+1)),v≤300*done+(q+1):=by
          intro v hv;rcases f1n hv with hv|rfl
          ·have:=fM v hv;omega
          ·omega
         have uL:done<c.nodes.length:=by omega
         have tR:a<left.length:=by omega
         have hU:x<out.length:=by omega
         by_cases hz:w-1=0
         ·rw[e8j hz]at mr;have eJ:decide (((w-1:Nat):Int)=0)=true:=e9w (by omega);have gt:ready.length+1≤1000000000:=by omega
          have go:(ready++[a])[done]?=some x:=by rw[e8f nW];exact hx
          (repeat first|simp only[ww]|(apply xa;simp+decide only[go_sem,c2,kw,qb,hy,bO,cN,cI,jh,ga,jr,hw,dF,bj,oI,oM,gM,rN,rB,rC,rY,bV,oU,eJ,gt];rfl;kernel_rfl))
          refine a0x (L.length-(q+1)) (by omega) ⟨_,_,?_,out.set a (max va (vx+1)),left.set a (w-1),ready++[a],q+1,rfl,kw,rfl,rfl,mr,go,oU,nw,by rw[ht];exact hV.dec hx iR ga jr (.inr rfl)⟩
          (simp+decide only[go_sem,a01,a00,c3m,d42,a1q,a2z]<;>rfl)<;>rfl
         ·rw[e8g hz]at mr;have eJ:¬((w-1:Nat):Int)=0:=by omega
          (repeat first|simp only[ww]|(apply xa;simp+decide only[go_sem,c2,kw,qb,hy,bO,cN,cI,jh,ga,jr,hw,dF,bj,oI,oM,gM,rN,rB,rC,rY,bV,oU,eJ];rfl;kernel_rfl))
          refine a0x (L.length-(q+1)) (by omega) ⟨_,_,?_,out.set a (max va (vx+1)),left.set a (w-1),ready,q+1,rfl,kw,rfl,rfl,mr,hx,oU,nw,by rw[ht];exact hV.dec hx iR ga jr (.inl rfl)⟩;rw[a7e 3 cY,a7f 1 cY]
          (simp+decide only[go_sem,a01,a00,a1q,a2z]<;>rfl)<;>rfl
        ·have cN:a1n y.kind=false:=by simpa using cN
         (repeat first|simp only[ww]|(apply xa;simp+decide only[go_sem,c2,kw,qb,hy,bO,cN,cI,jh];rfl;kernel_rfl))
         refine a0x (L.length-(q+1)) (by omega) ⟨_,_,?_,out,left,ready,q+1,rfl,kw,rfl,rfl,by rw[ht];exact hK.skip (by rw[a16 hy];exact cN),hx,dF,λv hv=>by have:=fM v hv;omega,by rw[ht];exact hV.skip (by rw[a16 hy];exact cN)⟩;rw[a7e 3 cY,a7f 1 cY]
         (simp+decide only[go_sem,a01,a00,a1q,a2z]<;>rfl)<;>rfl
       ·obtain rfl:q=L.length:=by omega
        have c2:¬(L.length:Int)<L.length:=by omega
        rw[f0p]at hK hV
        (repeat first|simp only[ww]|(apply xa;simp+decide only[go_sem,c2];rfl;kernel_rfl))
        refine a0x (c.nodes.length-(done+1)) (by omega) ⟨_,_,?_,out,left,ready,done+1,rfl,rfl,rfl,hK.next hx ox,dF,λv hv=>by have:=fM v hv;omega,hV.next hx ox⟩;rw[a7e 3 cY,a7f 1 cY]
        (simp+decide only[go_sem,a01,a00,a1q,a2z]<;>rfl)<;>rfl
    ·obtain rfl:done=ready.length:=by omega
     have c1:¬(ready.length:Int)<ready.length:=by omega
     have aY:=hK.all h.acyc;have c2:¬(ready.length:Int)<c.nodes.length:=by omega
     (repeat first|simp only[ww]|(apply xa;simp+decide only[go_sem,c1,c2];rfl;kernel_rfl))
     refine a21 (vs:=[.slice 1 0 c.nodes.length (some c.nodes.length),.int .i64 0]) (r:=(_,[])) (by simp+decide only[go_sem]) ?_ ⟨out,dF,λv hv=>by have:=fM v hv;omega,hV.all hK aY,rfl⟩;show a1l false 0 (.tuple [.slice 1 0 c.nodes.length (some c.nodes.length),.int .i64 0]) _=_;rw[←dF];simp+decide only[go_sem,d91]
theorem b3c(c:Cir)(h:c.wf):∃lv:List Nat,lv.length=c.nodes.length∧(∀v∈lv,v≤100000)∧Rises c.nodes lv∧∀(d:Bool) (H:a03),a0a L.env d (sem L.env Mf) (.func (.func 84) [] []) [.agg c.enc] H=some (.tuple [.islice (lv.map a0f) (some c.nodes.length),.int .i64 0],H,[]):=by obtain⟨r,⟨lv,h1,h2,hR,rfl⟩,h3⟩:=c92 c h;exact⟨lv,h1,h2,hR,λd H=>a04 (by kernel_rfl) (by kernel_rfl) rfl (a45 c) h3 rfl⟩
theorem c8m(c:Cir)(h:c.wf):sem L.env Mf 34 [.agg c.enc] []=some (.int .i64 0,[]):=by
 obtain⟨lv,_,_,_,hc⟩:=b3c c h;have hc:=hc false;simp only[Cir.enc]at hc⊢
 (refine sv Tryz.f34 ?_;simp only[Tryz.f34,gS])
 (repeat first|simp only[ww]|(apply xa;simp+decide only[go_sem,hc];rfl;kernel_rfl))
 (apply fqb;simp+decide only[go_sem]<;>rfl)
theorem b32{d:Bool}(H:a03)(c:Cir)(h:c.wf):a0a L.env d (sem L.env Mf) (.func (.func 34) [] []) [.agg c.enc] H=some (.int .i64 0,H,[]):=a04 (by kernel_rfl) (by kernel_rfl) rfl (a45 c) (c8m c h) rfl
theorem d3l(i:Int):sem L.env Mf 147 [.int .i64 i] []=some (.bool false,[]):=by
 (refine sv Tryz.f147 ?_;simp only[Tryz.f147,gS])
 (repeat first|simp only[ww]|(apply xa;simp+decide only[go_sem];rfl;kernel_rfl))
 (apply fqb;simp+decide only[go_sem]<;>rfl)
theorem c5k{d:Bool}(H:a03)(i:Int):a0a L.env d (sem L.env Mf) (.func (.func 147) [] []) [.int .i64 i] H=some (.bool false,H,[]):=a04 (by kernel_rfl) (by kernel_rfl) rfl rfl (d3l i) rfl
theorem c69(a b:Nat):sem L.env Mf 104 [.int .i64 a,.int .i64 b] []=some (.int .i64 (d6g a b),[]):=by
 have hn:=λH i=>c5k (d:=false) H i;unfold d6g;by_cases h1:a<b
 ·have c1:(a:Int)<b:=by omega
  rw[e8j h1]
  (refine sv Tryz.f104 ?_;simp only[Tryz.f104,gS])
  (repeat first|simp only[ww]|(apply xa;simp+decide only[go_sem,hn,c1];rfl;kernel_rfl))
  (apply fqb;simp+decide only[go_sem]<;>rfl)
 have c1:¬(a:Int)<b:=by omega
 rw[e8g h1];by_cases h2:b<a
 ·have c2:(b:Int)<a:=by omega
  rw[e8j h2]
  (refine sv Tryz.f104 ?_;simp only[Tryz.f104,gS])
  (repeat first|simp only[ww]|(apply xa;simp+decide only[go_sem,hn,c1,c2];rfl;kernel_rfl))
  (apply fqb;simp+decide only[go_sem]<;>rfl)
 ·have c2:¬(b:Int)<a:=by omega
  rw[e8g h2]
  (refine sv Tryz.f104 ?_;simp only[Tryz.f104,gS])
  (repeat first|simp only[ww]|(apply xa;simp+decide only[go_sem,hn,c1,c2];rfl;kernel_rfl))
  (apply fqb;simp+decide only[go_sem]<;>rfl)
theorem c03{d:Bool}(H:a03)(a b:Nat):a0a L.env d (sem L.env Mf) (.func (.func 104) [] []) [.int .i64 a,.int .i64 b] H=some (.int .i64 (d6g a b),H,[]):=a04 (by kernel_rfl) (by kernel_rfl) rfl rfl (c69 a b) rfl
def lvO(lv:List Nat):AObj:=.row 1 [[.islice (lv.map a0f) (some lv.length)]]
attribute [go_sem] lvO
theorem a49(lv:List Nat):FlatR [[AV.islice (lv.map a0f) (some lv.length)]]:=FlatR.cons rfl FlatR.nil
theorem c8d(lv:List Nat)(x y vx vy:Nat)(hx:lv[x]?=some vx)(hy:lv[y]?=some vy):sem L.env Mf 103 [.int .i64 x,.int .i64 y,.ptr 0 0 0] [some (lvO lv)]=some (.int .i64 (d6g vx vy),[some (lvO lv)]):=by
 have hc:=λH=>c03 (d:=true) H vx vy;have h1:=(e7k.1 hx).1;have h2:=(e7k.1 hy).1
 (refine sv Tryz.f103 ?_;simp only[Tryz.f103,gS])
 (repeat first|simp only[ww]|(apply xa;simp+decide only[go_sem,hc,hx,hy,h1,h2];rfl;kernel_rfl))
 (apply fqb;simp+decide only[go_sem]<;>rfl)
theorem c1f{d:Bool}{H:a03}{b:Nat}(lv:List Nat)(x y vx vy:Nat)(hx:lv[x]?=some vx)(hy:lv[y]?=some vy)(hb:a02 H b=some (lvO lv)):a0a L.env d (sem L.env Mf) (.func (.func 103) [] [.ptr b 0 0]) [.int .i64 x,.int .i64 y] H=some (.int .i64 (d6g vx vy),H,[b]):=a2v (fs:=[]) (cs:=[.ptr b 0 0]) (ar:=[.int .i64 x,.int .i64 y]) (by kernel_rfl) (by kernel_rfl) rfl hb (a0k (a49 lv)) (FlatO.row (a49 lv)) rfl (au:=[.int .i64 x,.int .i64 y,.ptr 0 0 0]) (by simp[ren,a8o]) (c8d lv x y vx vy hx hy) rfl
def b27:AV:=.func (.func 103) [] [.ptr 1 0 0]
def Srt(lv data:List Nat):Prop:=SortI (λv=>lv.getD v 0) data data.length
def JI0(lv d0:List Nat)(n:Nat)(F:Frm)(H:a03):Prop:=∃(i:Nat) (data:List Nat),n=d0.length-i∧1≤i∧
 F=[(0,.slice 0 0 d0.length (some d0.length)),(1,.int .i64 0),(2,.int .i64 d0.length),(3,b27),(8,.int .i64 i)]∧H=[some (.row 1 (data.map a0f)),some (lvO lv)]∧data.Perm d0∧SortI (λv=>lv.getD v 0) data i
def JI2(lv d0:List Nat)(i:Nat)(n:Nat)(F:Frm)(H:a03):Prop:=∃(j:Nat) (data:List Nat),n=j∧j<d0.length∧
 F=[(0,.slice 0 0 d0.length (some d0.length)),(1,.int .i64 0),(2,.int .i64 d0.length),(3,b27),(8,.int .i64 i),(9,.int .i64 j)]∧H=[some (.row 1 (data.map a0f)),some (lvO lv)]∧data.Perm d0∧j≤i∧SortJ (λv=>lv.getD v 0) data i j
theorem b9l(lv d0:List Nat)(hl:d0.length≤1000)(hd:∀v∈d0,v<lv.length):∃r:AV×a03,(∃data:List Nat,data.Perm d0∧Srt lv data∧r=(.tuple [],[some (.row 1 (data.map a0f)),some (lvO lv)]))∧
 sem L.env Mf 193 [.slice 0 0 d0.length (some d0.length),.int .i64 0,.int .i64 d0.length,b27] [some (.row 1 (d0.map a0f)),some (lvO lv)]=some r:=by
 unfold b27
 (refine svE Tryz.f193 ?_;simp only[Tryz.f193,gS])
 (repeat first|simp only[ww]|(apply xa;simp+decide only[go_sem];rfl;kernel_rfl))
 refine a3j kp193_0 (JI0 lv d0) (d0.length-1) ?_ ?_
 ·refine⟨_,_,?_,1,d0,rfl,e9k _,rfl,rfl,List.Perm.refl _,SortI.one⟩;unfold b27
  (simp+decide only[go_sem,a01,a00,a1q,a2z]<;>rfl)<;>rfl
 ·rintro n F H ⟨i,data,rfl,tz,rfl,rfl,hp,hS⟩
  unfold b27;have hw:=wI1 (n:=i) ;by_cases aj:i<d0.length
  ·have c1:(i:Int)<d0.length:=by omega
   have hw:=wI1 (n:=i) (by omega)
   (repeat first|simp only[ww]|(apply xa;simp+decide only[go_sem,c1];rfl;kernel_rfl))
   refine a3j kp193_2 (JI2 lv d0 i) i ?_ ?_
   ·refine⟨_,_,?_,i,data,rfl,aj,rfl,rfl,hp,e9k _,hS.start⟩;unfold b27
    (simp+decide only[go_sem,a01,a00,a1q,a2z]<;>rfl)<;>rfl
   ·rintro n F H ⟨j,data,rfl,hj,rfl,rfl,hp,gT,hS⟩
    unfold b27;have al:=hp.length_eq;cases n with
    |zero=>
     (repeat first|simp only[ww]|(apply xa;simp+decide only[go_sem];rfl;kernel_rfl))
     refine a0x (d0.length-(i+1)) (by omega) ⟨_,_,?_,i+1,data,rfl,by omega,rfl,rfl,hp,hS.stop (.inl rfl)⟩;unfold b27
     (simp+decide only[go_sem,a01,a00,a1q,a2z,hw]<;>rfl)<;>rfl
    |succ j=>
     obtain⟨x,hx⟩:∃x,data[j+1]?=some x:=⟨_,z9e (by omega)⟩
     obtain⟨y,hy⟩:∃y,data[j]?=some y:=⟨_,z9e (by omega)⟩
     obtain⟨vx,jr⟩:∃v,lv[x]?=some v:=⟨_,z9e (hd x (hp.mem_iff.1 (c11 hx)))⟩
     obtain⟨vy,rt⟩:∃v,lv[y]?=some v:=⟨_,z9e (hd y (hp.mem_iff.1 (c11 hy)))⟩
     have c0:(0:Int)<((j+1:Nat):Int):=by omega
     have iV:j<d0.length:=by omega
     have rW:j+1<data.length:=by omega
     have rV:j<data.length:=by omega
     have bc:IntKind.i64.wrap (((j+1:Nat):Int)-1)=(j:Int):=by rw[w64 (by omega) (by omega)];omega
     have ai:=c1f (d:=true) (H:=[some (.row 1 (data.map a0f)),some (lvO lv)]) (b:=1) lv x y vx vy jr rt rfl;simp only[lvO]at ai;have kx:lv.getD x 0=vx:=by rw[List.getD,jr];rfl
     have ky:lv.getD y 0=vy:=by rw[List.getD,rt];rfl
     by_cases b9:d6g vx vy<0
     ·have ig:(((data.map a0f).set (j+1) [AV.int .i64 y]).set j [AV.int .i64 x])=((data.set (j+1) y).set j x).map a0f:=by rw[f1f,f1f];rfl
      have r8:((data.map a0f).set (j+1) [AV.int .i64 y])[j]?=some [AV.int .i64 y]:=by rw[List.getElem?_set_ne (by omega),e8a,hy];rfl
      (repeat first|simp only[ww]|(apply xa;simp+decide only[go_sem,c0,hj,iV,rW,rV,hx,hy,bc,ai,b9,al,f0l,ig,r8];rfl;kernel_rfl))
      refine a0x j (by omega) ⟨_,_,?_,j,_,rfl,iV,rfl,rfl,(c79 hx hy).trans hp,by omega,hS.swap gT hy hx (by show lv.getD x 0<lv.getD y 0;rw[kx,ky];unfold d6g at b9;split at b9<;>first|assumption|(exfalso;split at b9<;>omega))⟩;unfold b27
      (simp+decide only[go_sem,a01,a00,a1q,a2z,ig]<;>rfl)<;>rfl
     ·(repeat first|simp only[ww]|(apply xa;simp+decide only[go_sem,c0,hj,iV,rW,rV,hx,hy,bc,ai,b9,al];rfl;kernel_rfl))
      refine a0x (d0.length-(i+1)) (by omega) ⟨_,_,?_,i+1,data,rfl,by omega,rfl,rfl,hp,hS.stop (.inr ⟨y,x,hy,hx,by show lv.getD y 0≤lv.getD x 0;rw[kx,ky];unfold d6g at b9;split at b9<;>omega⟩)⟩;unfold b27
      (simp+decide only[go_sem,a01,a00,a1q,a2z,hw]<;>rfl)<;>rfl
  ·have c1:¬(i:Int)<d0.length:=by omega
   (repeat first|simp only[ww]|(apply xa;simp+decide only[go_sem,c1];rfl;kernel_rfl))
   refine b7p (vs:=[]) (r:=(_,[_,_])) (by simp+decide only[go_sem]) ?_ ⟨data,hp,λp q x y h1 h2=>hS p q x y h1 (by have:=hp.length_eq;omega),rfl⟩;simp+decide only[go_sem,a2z]<;>rfl
def d2e(b:Nat):AV:=.func (.func 103) [] [.ptr b 0 0]
theorem a3f(l:List Nat):FlatR (l.map a0f):=FlatR.map λ_=>rfl
theorem b4s(lv d0:List Nat)(hl:d0.length≤1000)(hd:∀v∈d0,v<lv.length):∃data:List Nat,data.Perm d0∧Srt lv data∧
 a0a L.env false (sem L.env Mf) (.func (.func 193) [] []) [.slice 0 0 d0.length (some d0.length),.int .i64 0,.int .i64 d0.length,b27] [some (.row 1 (d0.map a0f)),some (lvO lv)]=some (.tuple [],[some (.row 1 (data.map a0f)),some (lvO lv)],[0,1]):=by
 obtain⟨r,⟨data,hp,hS,rfl⟩,h⟩:=b9l lv d0 hl hd;refine⟨data,hp,hS,?_⟩;exact b48 (a:=0) (b:=1) (fs:=[]) (cs:=[]) (ar:=[.slice 0 0 d0.length (some d0.length),.int .i64 0,.int .i64 d0.length,b27]) (H:=[some (.row 1 (d0.map a0f)),some (lvO lv)]) (by kernel_rfl) (by kernel_rfl) rfl (by decide) rfl rfl (a0k (a3f d0)) (a0k (a49 lv)) (FlatO.row (a3f d0)) (FlatO.row (a49 lv)) rfl rfl h (FlatO.row (a3f data)) (FlatO.row (a49 lv)) rfl
theorem c7k(lv d0:List Nat)(hl:d0.length≤19)(hd:∀v∈d0,v<lv.length):∃r:AV×a03,(∃data:List Nat,data.Perm d0∧Srt lv data∧r=(.tuple [],[some (.row 1 (data.map a0f)),some (lvO lv)]))∧
 sem L.env Mf 146 [.slice 0 0 d0.length (some d0.length),.int .i64 d0.length,b27] [some (.row 1 (d0.map a0f)),some (lvO lv)]=some r:=by
 obtain⟨data,hp,hS,hc⟩:=b4s lv d0 (by omega) hd;have c1:¬(20:Int)≤d0.length:=by omega
 have c2:¬(20:Int)<d0.length:=by omega
 unfold b27 at hc⊢;simp only[lvO]at hc⊢
 (refine svE Tryz.f146 ?_;simp only[Tryz.f146,gS])
 (repeat first|simp only[ww]|(apply xa;simp+decide only[go_sem,c1];rfl;kernel_rfl))
 refine a0l (σ:=Nat) kp146_0 (λi=>[(0,.slice 0 0 d0.length (some d0.length)),(1,.int .i64 d0.length),(2,b27),(6,.int .i64 20),(7,.int .i64 0),(8,.int .i64 20)])
  (λi=>[some (.row 1 (d0.map a0f)),some (.row 1 [[.islice (lv.map a0f) (some lv.length)]])]) (λi=>0) (λi=>True) 0 ?_ trivial ?_
 ·unfold b27
  (simp+decide only[go_sem,a01,a00,a1q,a2z]<;>rfl)<;>rfl
 ·intro i _;unfold b27
  (repeat first|simp only[ww]|(apply xa;simp+decide only[go_sem,c1,hc];rfl;kernel_rfl))
  refine a0l (σ:=Nat) kp146_2 (λi=>[(0,.slice 0 0 d0.length (some d0.length)),(1,.int .i64 d0.length),(2,b27),(6,.int .i64 20)])
   (λi=>[some (.row 1 (data.map a0f)),some (.row 1 [[.islice (lv.map a0f) (some lv.length)]])]) (λi=>0) (λi=>True) 0 ?_ trivial ?_
  ·unfold b27
   (simp+decide only[go_sem,a01,a00,a1q,a2z]<;>rfl)<;>rfl
  ·intro i _;unfold b27
   (repeat first|simp only[ww]|(apply xa;simp+decide only[go_sem,c2];rfl;kernel_rfl))
   refine b7p (vs:=[]) (r:=(_,[_,_])) (by simp+decide only[go_sem]) ?_ ⟨data,hp,hS,rfl⟩;simp+decide only[go_sem,a2z]<;>rfl
theorem b6v(lv d0:List Nat)(hl:d0.length≤19)(hd:∀v∈d0,v<lv.length):∃r:AV×a03,(∃data:List Nat,data.Perm d0∧Srt lv data∧r=(.tuple [],[some (.row 1 (data.map a0f)),some (lvO lv)]))∧
 sem L.env Mf 102 [.slice 0 0 d0.length (some d0.length),b27] [some (.row 1 (d0.map a0f)),some (lvO lv)]=some r:=by
 obtain⟨r,⟨data,hp,hS,rfl⟩,h⟩:=c7k lv d0 hl hd;have hc:=b48 (E:=L.env) (ag:=false) (call:=sem L.env Mf) (g:=146) (a:=0) (b:=1) (fs:=[]) (cs:=[]) (ar:=[.slice 0 0 d0.length (some d0.length),.int .i64 d0.length,b27]) (H:=[some (.row 1 (d0.map a0f)),some (lvO lv)]) (v':=.tuple []) (by kernel_rfl) (by kernel_rfl) rfl (by decide) rfl rfl (a0k (a3f d0)) (a0k (a49 lv)) (FlatO.row (a3f d0)) (FlatO.row (a49 lv)) rfl rfl h (FlatO.row (a3f data)) (FlatO.row (a49 lv)) rfl;unfold b27 at hc⊢;simp only[lvO]at hc⊢
 (refine svE Tryz.f102 ?_;simp only[Tryz.f102,gS])
 (repeat first|simp only[ww]|(apply xa;simp+decide only[go_sem,hc];rfl;kernel_rfl))
 refine b7p (vs:=[]) (r:=(_,[_,_])) (by simp+decide only[go_sem]) ?_ ⟨data,hp,hS,rfl⟩;simp+decide only[go_sem,a2z]<;>rfl
theorem b2i(lv d0:List Nat)(hl:d0.length≤19)(hd:∀v∈d0,v<lv.length):∃data:List Nat,data.Perm d0∧Srt lv data∧∀(d:Bool) (H:a03) (a b:Nat),a≠b→a02 H a=some (.row 1 (d0.map a0f))→a02 H b=some (lvO lv)→
 a0a L.env d (sem L.env Mf) (.func (.func 102) [] []) [.slice a 0 d0.length (some d0.length),d2e b] H=some (.tuple [],(H.set a (some (.row 1 (data.map a0f)))).set b (some (lvO lv)),[a,b]):=by
 obtain⟨r,⟨data,hp,hS,rfl⟩,h⟩:=b6v lv d0 hl hd;refine⟨data,hp,hS,λd H a b bB ha hb=>?_⟩;exact b48 (a:=a) (b:=b) (fs:=[]) (cs:=[]) (ar:=[.slice a 0 d0.length (some d0.length),d2e b]) (H:=H) (by kernel_rfl) (by kernel_rfl) rfl bB ha hb (a0k (a3f d0)) (a0k (a49 lv)) (FlatO.row (a3f d0)) (FlatO.row (a49 lv)) rfl
  (by simp only[e7l,e7i,e12,e7j,c1b,d2e,d2o,c7x bB];rfl) h (FlatO.row (a3f data)) (FlatO.row (a49 lv)) rfl
theorem d2x(c:Cir)(h:c.wf):∃r:AV×a03,(∃ord:List Nat,ord.Perm (List.range c.nodes.length)∧e4h c.nodes ord∧r=(.tuple [.islice (ord.map a0f) (some c.nodes.length),.int .i64 0],[]))∧sem L.env Mf 58 [.agg c.enc] []=some r:=by
 have hn:=h.len;obtain⟨lv,kD,uC,hR,hc⟩:=b3c c h;have hc:=hc false;have aK:c.nodes.length≤1000000000:=by omega
 obtain⟨data,hp,hS,hs⟩:=b2i lv (List.range c.nodes.length) (by simp;omega) (λv hv=>by rw[kD];simpa using hv);have i7:data.length=c.nodes.length:=by rw[hp.length_eq];simp
 rw[f0o]at hs;simp only[Cir.enc]at hc⊢
 (refine svE Tryz.f58 ?_;simp only[Tryz.f58,gS])
 (repeat first|simp only[ww]|(apply xa;simp+decide only[go_sem,hc,aK];rfl;kernel_rfl))
 refine a0l (σ:=Nat) kp58_0 (λi=>[(4,.ptr 0 0 0),(6,.slice 1 0 c.nodes.length (some c.nodes.length)),(21,.int .i64 c.nodes.length),(22,.int .i64 i)])
  (λi=>[some (lvO lv),some (.row 1 ((List.range i++List.replicate (c.nodes.length-i) 0).map a0f))]) (λi=>c.nodes.length-i) (λi=>i≤c.nodes.length) 0 ?_ (e8e _) ?_
 ·rw[lvO,kD]
  (simp+decide only[go_sem,a01,a00,e9d,a1q,a2z,List.range_zero,e7l,Nat.sub_zero]<;>rfl)<;>rfl
 ·intro i hi;rw[lvO];by_cases aj:i<c.nodes.length
  ·have c1:(i:Int)<c.nodes.length:=by omega
   have hw:=wI1 (n:=i) (by omega);have eu:(List.range i++List.replicate (c.nodes.length-i) 0).length=c.nodes.length:=by simp;omega
   have hg:(List.range i++List.replicate (c.nodes.length-i) 0)[i]?=some 0:=by rw[e8h (by simp),f0o,Nat.sub_self,f0t,e8j (by omega)]
   have aB:((List.range i++List.replicate (c.nodes.length-i) 0).map a0f).set i [AV.int .i64 i]=(List.range (i+1)++List.replicate (c.nodes.length-(i+1)) 0).map a0f:=by
    have e:c.nodes.length-i=(c.nodes.length-(i+1))+1:=by omega
    rw[e,f2b];rw[show [AV.int IntKind.i64 (i:Int)]=a0f i from rfl,←f1f,List.set_append_right _ _ (by simp),f2r,e7m];simp
   generalize hA:(List.range i++List.replicate (c.nodes.length-i) 0)=A at eu hg aB
   (repeat first|simp only[ww]|(apply xa;simp+decide only[go_sem,c1,aj,hw,eu,hg,aB];rfl;kernel_rfl))
   refine a25 (i+1) ?_ (by omega) (by omega)
   (simp+decide only[go_sem,a01,a00,a1q,a2z]<;>rfl)<;>rfl
  ·obtain rfl:i=c.nodes.length:=by omega
   have c1:¬(c.nodes.length:Int)<c.nodes.length:=by omega
   rw[Nat.sub_self,List.replicate_zero,e7i];have kq:=hs false [some (lvO lv),some (.row 1 ((List.range c.nodes.length).map a0f))] 1 0 (by decide) rfl rfl;simp only[lvO,d2e]at kq
   (repeat first|simp only[ww]|(apply xa;simp+decide only[go_sem,c1,kq];rfl;kernel_rfl))
   refine a21 (vs:=[.slice 1 0 c.nodes.length (some c.nodes.length),.int .i64 0]) (r:=(_,[])) (by simp+decide only[go_sem]) ?_ ⟨data,hp,hR.topo hp hS.pairwise h.inAt,rfl⟩;show a1l false 0 (.tuple [.slice 1 0 c.nodes.length (some c.nodes.length),.int .i64 0]) _=_;rw[←i7];simp+decide only[go_sem,d91]
theorem c58(c:Cir)(h:c.wf):∃ord:List Nat,ord.Perm (List.range c.nodes.length)∧e4h c.nodes ord∧∀(d:Bool) (H:a03),a0a L.env d (sem L.env Mf) (.func (.func 58) [] []) [.agg c.enc] H=some (.tuple [.islice (ord.map a0f) (some c.nodes.length),.int .i64 0],H,[]):=by obtain⟨r,⟨ord,h1,h2,rfl⟩,h3⟩:=d2x c h;exact⟨ord,h1,h2,λd H=>a04 (by kernel_rfl) (by kernel_rfl) rfl (a45 c) h3 rfl⟩
theorem d01(c:Cir)(h:c.wf):sem L.env Mf 52 [.agg c.enc] []=some (.int .i64 0,[]):=by
 have hc:=λH=>b32 (d:=false) H c h;simp only[Cir.enc]at hc⊢
 (refine sv Tryz.f52 ?_;simp only[Tryz.f52,gS])
 (repeat first|simp only[ww]|(apply xa;simp+decide only[go_sem,hc];rfl;kernel_rfl))
 (apply fqb;simp+decide only[go_sem]<;>rfl)
theorem c20{d:Bool}(H:a03)(c:Cir)(h:c.wf):a0a L.env d (sem L.env Mf) (.func (.func 52) [] []) [.agg c.enc] H=some (.int .i64 0,H,[]):=a04 (by kernel_rfl) (by kernel_rfl) rfl (a45 c) (d01 c h) rfl
theorem d47(c:Cir)(h:c.wf)(n:Nat)(p:Int)(hn:n<c.nodes.length)(hp:-1≤p)(dO:p<(a2q c.nodes n).length):sem L.env Mf 53 [.agg c.enc,.agg [.int .i64 n,.int .i64 p]] []=some (.bool true,[]):=by
 obtain⟨x,hx⟩:∃x,c.nodes[n]?=some x:=⟨_,z9e hn⟩
 rw[a20 hx]at dO;have c1:0≤(n:Int):=by omega
 have c2:(n:Int)<c.nodes.length:=by omega
 simp only[Cir.enc]
 (refine sv Tryz.f53 ?_;simp only[Tryz.f53,gS])
 (repeat first|simp only[ww]|(apply xa;simp+decide only[go_sem,c1,c2,hn,hp,dO,hx];rfl;kernel_rfl))
 (apply fqb;simp+decide only[go_sem]<;>rfl)
theorem c5w{d:Bool}(H:a03)(c:Cir)(h:c.wf)(n:Nat)(p:Int)(hn:n<c.nodes.length)(hp:-1≤p)(dO:p<(a2q c.nodes n).length):a0a L.env d (sem L.env Mf) (.func (.func 53) [] []) [.agg c.enc,.agg [.int .i64 n,.int .i64 p]] H=some (.bool true,H,[]):=a04 (by kernel_rfl) (by kernel_rfl) rfl (by simp only[a06,a0n,Cir.enc,go_sem]) (d47 c h n p hn hp dO) rfl
/- dependence, by the statements -/
theorem c60(c:Cir)(h:c.wf)(b:Nat)(hb:b<c.nodes.length):∀(k depth a:Nat),c.nodes.length+1≤depth+k→a<c.nodes.length→depth≤100→
 ∃q:Bool,(depth+a≤c.nodes.length→DepOn c.nodes a b→q=true)∧sem L.env Mf 99 [.agg c.enc,.int .i64 a,.int .i64 b,.int .i64 depth] []=some (.bool q,[]):=by
 intro k
 induction k with
 |zero=>
  intro depth a hk ha hd;have hl:=h.len;by_cases bB:a=b
  ·subst bB;refine⟨true,λ_ _=>rfl,?_⟩;simp only[Cir.enc]
   (refine sv Tryz.f99 ?_;simp only[Tryz.f99,gS])
   (repeat first|simp only[ww]|(apply xa;simp+decide only[go_sem];rfl;kernel_rfl))
   (apply fqb;simp+decide only[go_sem]<;>rfl)
  ·refine⟨false,λh1 _=>by omega,?_⟩;have c1:¬(a:Int)=b:=by omega
   have c2:(c.nodes.length:Int)<depth:=by omega
   simp only[Cir.enc]
   (refine sv Tryz.f99 ?_;simp only[Tryz.f99,gS])
   (repeat first|simp only[ww]|(apply xa;simp+decide only[go_sem,c1,c2];rfl;kernel_rfl))
   (apply fqb;simp+decide only[go_sem]<;>rfl)
 |succ k ih=>
  intro depth a hk ha hd;have hl:=h.len;by_cases bB:a=b
  ·subst bB;refine⟨true,λ_ _=>rfl,?_⟩;simp only[Cir.enc]
   (refine sv Tryz.f99 ?_;simp only[Tryz.f99,gS])
   (repeat first|simp only[ww]|(apply xa;simp+decide only[go_sem];rfl;kernel_rfl))
   (apply fqb;simp+decide only[go_sem]<;>rfl)
  have c1:¬(a:Int)=b:=by omega
  by_cases i7:c.nodes.length<depth
  ·refine⟨false,λh1 _=>by omega,?_⟩;have c2:(c.nodes.length:Int)<depth:=by omega
   simp only[Cir.enc]
   (refine sv Tryz.f99 ?_;simp only[Tryz.f99,gS])
   (repeat first|simp only[ww]|(apply xa;simp+decide only[go_sem,c1,c2];rfl;kernel_rfl))
   (apply fqb;simp+decide only[go_sem]<;>rfl)
  have c2:¬(c.nodes.length:Int)<depth:=by omega
  obtain⟨x,hx⟩:∃x,c.nodes[a]?=some x:=⟨_,z9e ha⟩
  by_cases h14:x.kind=14
  ·refine⟨false,λ_ hr=>absurd hr (DepOn.not_dff bB (by rw[a16 hx];exact h14)),?_⟩;have c3:decide ((x.kind:Int)=14)=true:=e9w (by omega);simp only[Cir.enc]
   (refine sv Tryz.f99 ?_;simp only[Tryz.f99,gS])
   (repeat first|simp only[ww]|(apply xa;simp+decide only[go_sem,c1,c2,hx,ha,c3];rfl;kernel_rfl))
   (apply fqb;simp+decide only[go_sem]<;>rfl)
  have c3:¬(x.kind:Int)=14:=by omega
  have dN:=c11 hx;have dp:=h.insl dN;have mY:=wI1 (n:=depth) (by omega)
  suffices hs:∃r:AV×a03,(∃q:Bool,(depth+a≤c.nodes.length→DepOn c.nodes a b→q=true)∧r=(.bool q,[]))∧sem L.env Mf 99 [.agg c.enc,.int .i64 a,.int .i64 b,.int .i64 depth] []=some r by obtain⟨r,⟨q,h1,rfl⟩,h2⟩:=hs;exact⟨q,h1,h2⟩
  simp only[Cir.enc]at ih⊢
  (refine svE Tryz.f99 ?_;simp only[Tryz.f99,gS])
  (repeat first|simp only[ww]|(apply xa;simp+decide only[go_sem,c1,c2,hx,ha,c3];rfl;kernel_rfl))
  refine a3j kp99_0 (λn F H=>∃i,n=x.ins.length-i∧i≤x.ins.length∧F=[(1,.int .i64 a),(2,.int .i64 b),(3,.int .i64 depth),(4,.ptr 0 0 0),(9,.int .i64 i)]∧
   H=[some (.row 4 [[sl c.nc (c.nodes.map Nd.enc),sl c.mc (c.names.map a1c),.nilslice,sl c.oc (c.outs.map a0f)]])]∧(depth+a≤c.nodes.length→∀m∈x.ins.take i,¬DepOn c.nodes m b)) (x.ins.length-0) ?_ ?_
  ·refine⟨_,_,?_,0,rfl,e8e _,rfl,rfl,by simp⟩
   (simp+decide only[go_sem,a01,a00]<;>rfl)<;>rfl
  ·rintro n F H ⟨i,rfl,hi,rfl,rfl,cK⟩
   by_cases aj:i<x.ins.length
   ·obtain⟨m,hm⟩:∃m,x.ins[i]?=some m:=⟨_,z9e aj⟩
    have db:=h.ins x dN m (c11 hm);have c4:(i:Int)<x.ins.length:=by omega
    have hw:=wI1 (n:=i) (by omega);obtain⟨q,rF,nq⟩:=ih (depth+1) m (by omega) db (by omega);have ai:=λH=>a04 (E:=L.env) (ag:=true) (call:=sem L.env Mf) (g:=99) (fs:=[]) (cs:=[]) (ar:=[.agg [sl c.nc (c.nodes.map Nd.enc),sl c.mc (c.names.map a1c),.nilslice,sl c.oc (c.outs.map a0f)],.int .i64 m,.int .i64 b,.int .i64 (depth+1:Nat)]) (H:=H) (by kernel_rfl) (by kernel_rfl) rfl (by simp only[e7l,e7i,a06,a0n,go_sem]) nq rfl;have pY:depth+a≤c.nodes.length→depth+1+m≤c.nodes.length:=by intro lP;have:=h.acyc a x hx (h.comb_of dN (by omega) h14) m (c11 hm);omega
    cases q with
    |true=>
     (repeat first|simp only[ww]|(apply xa;simp+decide only[go_sem,c4,aj,hx,ha,hm,hw,mY,ai];rfl;kernel_rfl))
     refine a21 (vs:=[.bool true]) (r:=(_,[])) (by simp+decide only[go_sem]) ?_ ⟨true,λ_ _=>rfl,rfl⟩;simp+decide only[go_sem]
    |false=>
     have hr:depth+a≤c.nodes.length→¬DepOn c.nodes m b:=λlP hr=>by have:=rF (pY lP) hr;cases this
     (repeat first|simp only[ww]|(apply xa;simp+decide only[go_sem,c4,aj,hx,ha,hm,hw,mY,ai];rfl;kernel_rfl))
     refine a0x (x.ins.length-(i+1)) (by omega) ⟨_,_,?_,i+1,rfl,aj,rfl,rfl,?_⟩
     ·(simp+decide only[go_sem,a01,a00]<;>rfl)<;>rfl
     ·intro lP m' aX;rw[a1d hm,e9s]at aX;rcases aX with aX|aX
      ·exact cK lP m' aX
      ·simp only[e8k]at aX;subst aX;exact hr lP
   ·obtain rfl:i=x.ins.length:=by omega
    have c4:¬(x.ins.length:Int)<x.ins.length:=by omega
    (repeat first|simp only[ww]|(apply xa;simp+decide only[go_sem,c4,hx,ha];rfl;kernel_rfl))
    refine a21 (vs:=[.bool false]) (r:=(_,[])) (by simp+decide only[go_sem]) ?_ ⟨false,?_,rfl⟩
    ·simp+decide only[go_sem]
    ·intro lP hr;rw[f0p]at cK;rcases hr.cases with e|⟨_,m,hm,hr⟩
     ·exact absurd e bB
     ·rw[a20 hx]at hm;exact absurd hr (cK lP m hm)
def b0z(b:Bool):List AV:=[.bool b]
attribute [go_sem] b0z
theorem a9t(l:List Bool):(l.map b0z).flatMap a0d=[]:=a08 (FlatR.map λ_=>rfl)
theorem b74(π:Nat→Option Nat)(l:List Bool):(l.map b0z).map (λr=>r.map (ren π))=l.map b0z:=a05 π (FlatR.map λ_=>rfl)
theorem e87{m:Nat}{d:AV→Option AV}(l:List Bool):a8v m d (l.map b0z)=some (l.map b0z):=a12 m d (FlatR.map λ_=>rfl)
theorem b9x{l:List Bool}{m:Nat}(h:l[m]?=some false):(l.set m true).count false+1=l.count false:=by
 induction l generalizing m with
 |nil=>simp at h
 |cons a l ih=>
  cases m with
  |zero=>simp only[f0k,Option.some.injEq]at h;subst h;simp
  |succ m=>simp only[f00]at h;simp only[List.set_cons_succ,List.count_cons];have:=ih h;omega
structure Cone(c:Cir)(a:Nat)(inn:List Bool)(T:List Nat)(J:List (List AV))(cap:Option Nat):Prop where
 len:inn.length=c.nodes.length
 mark:∀b:Nat,inn[b]?=some true→DepOn c.nodes a b
 todo:∀t∈T,t<c.nodes.length∧DepOn c.nodes a t
 flat:FlatR J
 cap:cap=none∨(cap=some 1∧T.length+J.length=1)
def cnH(c:Cir)(inn:List Bool)(T:List Nat)(J:List (List AV)):a03:=[some (.row 4 [[sl c.nc (c.nodes.map Nd.enc),sl c.mc (c.names.map a1c),.nilslice,sl c.oc (c.outs.map a0f)]]),some (.row 1 (inn.map b0z)),some (.row 1 (T.map a0f++J))]
def JC0(c:Cir)(a:Nat)(n:Nat)(F:Frm)(H:a03):Prop:=∃inn T J cap,n=inn.count false+T.length∧n≤c.nodes.length∧F=[(2,.ptr 0 0 0),(5,.slice 1 0 c.nodes.length (some c.nodes.length)),(6,.slice 2 0 T.length cap)]∧H=cnH c inn T J∧Cone c a inn T J cap
def JC2(c:Cir)(a:Nat)(x:Nd)(N n:Nat)(F:Frm)(H:a03):Prop:=∃inn T J cap k,n=x.ins.length-k∧k≤x.ins.length∧inn.count false+T.length<N∧N≤c.nodes.length∧F=[(2,.ptr 0 0 0),(5,.slice 1 0 c.nodes.length (some c.nodes.length)),(6,.slice 2 0 T.length cap),(45,sl x.c (x.ins.map a0f)),(46,.int .i64 x.ins.length),(47,.int .i64 k)]∧H=cnH c inn T J∧Cone c a inn T J cap
theorem e7c(n:Nat):List.replicate n [AV.bool false]=(List.replicate n false).map b0z:=by rw[f3c];rfl
theorem d9h(c:Cir)(h:c.wf)(a:Nat)(ha:a<c.nodes.length):∃r:AV×a03,(∃l:List Bool,l.length=c.nodes.length∧(∀b:Nat,l[b]?=some true→DepOn c.nodes a b)∧r=(.islice (l.map b0z) (some c.nodes.length),[]))∧sem L.env Mf 100 [.agg c.enc,.int .i64 a] []=some r:=by
 have hn:=h.len;have aK:c.nodes.length≤1000000000:=by omega
 have aB:(List.replicate c.nodes.length [AV.bool false]).set a [AV.bool true]=((List.replicate c.nodes.length false).set a true).map b0z:=by rw[e7c,f1f];rfl
 have jy:(List.replicate c.nodes.length [AV.bool false])[a]?=some [AV.bool false]:=by rw[f0t,e8j ha]
 have tB:(List.replicate c.nodes.length false)[a]?=some false:=by rw[f0t,e8j ha]
 have jb:((List.replicate c.nodes.length false).set a true).count false+1≤c.nodes.length:=by rw[b9x tB];exact Nat.le_trans List.count_le_length (by simp)
 simp only[Cir.enc]
 (refine svE Tryz.f100 ?_;simp only[Tryz.f100,gS])
 (repeat first|simp only[ww]|(apply xa;simp+decide only[go_sem,aK,ha,jy];rfl;kernel_rfl))
 refine a3j kp100_0 (JC0 c a) (((List.replicate c.nodes.length false).set a true).count false+1) ?_ ?_
 ·refine⟨_,_,?_,(List.replicate c.nodes.length false).set a true,[a],[],some 1,rfl,jb,rfl,rfl,⟨by simp,?_,?_,FlatR.nil,.inr ⟨rfl,rfl⟩⟩⟩
  ·rw[cnH]
   (simp+decide only[go_sem,a01,a00,a9t,b74,aB]<;>rfl)<;>rfl
  ·intro b hb;rw[e8n]at hb;by_cases bB:a=b
   ·subst bB;exact .refl _
   ·rw[e8g bB,f0t]at hb;split at hb<;>cases hb
  ·intro t ht;simp only[e8k]at ht;subst ht;exact⟨ha,.refl _⟩
 ·rintro N F H ⟨inn,T,J,cap,rfl,hB,rfl,rfl,hC⟩
  rw[cnH];rcases List.eq_nil_or_concat T with rfl|⟨T,t,rfl⟩
  · -- nothing is left
   (repeat first|simp only[ww]|(apply xa;simp+decide only[go_sem];rfl;kernel_rfl))
   refine a21 (vs:=[.slice 1 0 c.nodes.length (some c.nodes.length)]) (r:=(_,[])) (by simp+decide only[go_sem]) ?_ ⟨inn,hC.len,hC.mark,rfl⟩;show a1l false 0 (.slice 1 0 c.nodes.length (some c.nodes.length)) _=_;rw[←hC.len];simp+decide only[go_sem,e87]
  ·simp only[List.concat_eq_append]at hB hC⊢;obtain⟨na,gb⟩:=hC.todo t (by simp);obtain⟨x,hx⟩:∃x,c.nodes[t]?=some x:=⟨_,z9e na⟩
   have al:(T++[t]).length=T.length+1:=by simp
   rw[al]at hB;have c1:(0:Int)<((T.length+1:Nat):Int):=by omega
   have gE:T.length+1≤c.nodes.length:=by omega
   have bc:IntKind.i64.wrap (((T.length+1:Nat):Int)-1)=(T.length:Int):=by rw[w64 (by omega) (by omega)];omega
   have fc:(T++[t]).map a0f++J=T.map a0f++(a0f t::J):=by simp
   have aO:(T.map a0f++(a0f t::J))[T.length]?=some (a0f t):=by rw[e8h (by simp)];simp
   have bl:T.length≤T.length+1:=by omega
   have mF:Cone c a inn T (a0f t::J) cap:=⟨hC.len,hC.mark,λs hs=>hC.todo s (by simp[hs]),FlatR.cons rfl hC.flat,hC.cap.imp id (λ⟨e1,e2⟩=>⟨e1,by rw[al]at e2;simp;omega⟩)⟩
   have lK:=a08 mF.flat;have lu:=λπ=>a05 π mF.flat;rw[fc,al];generalize hJ':a0f t::J=J' at aO mF lK lu;have dN:=c11 hx;have dp:=h.insl dN;have cF:a1i (T.length+1) cap=T.length+1∨a1i (T.length+1) cap=1:=by
    rcases hC.cap with e|⟨e,_⟩<;>rw[e]
    ·exact .inl rfl
    ·exact .inr rfl
   have lF:T.length≤a1i (T.length+1) cap:=by
    rcases hC.cap with e|⟨e,e2⟩
    ·rw[e];show T.length≤T.length+1;omega
    ·rw[e];show T.length≤1;rw[al]at e2;omega
   by_cases h14:x.kind=14
   ·have c3:decide ((x.kind:Int)=14)=true:=e9w (by omega)
    (repeat first|simp only[ww]|(apply xa;simp+decide only[go_sem,c1,bc,aO,hx,na,c3,lF,bl,a7w];rfl;kernel_rfl))
    refine a0x (inn.count false+T.length) (by omega) ⟨_,_,?_,inn,T,J',cap,rfl,by omega,rfl,rfl,mF⟩;rw[cnH]
    (simp+decide only[go_sem,a01,a00,a9t,b74,a1q,a2z,lK,lu]<;>rfl)<;>rfl
   have c3:¬(x.kind:Int)=14:=by omega
   (repeat first|simp only[ww]|(apply xa;simp+decide only[go_sem,c1,bc,aO,hx,na,c3,lF,bl,a7w];rfl;kernel_rfl))
   refine a3j kp100_2 (JC2 c a x (inn.count false+(T.length+1))) (x.ins.length-0) ?_ ?_
   ·refine⟨_,_,?_,inn,T,J',cap,0,rfl,e8e _,by omega,hB,rfl,rfl,mF⟩;rw[cnH]
    (simp+decide only[go_sem,a01,a00,a9t,b74,a1q,a2z,lK,lu]<;>rfl)<;>rfl
   ·generalize inn.count false+(T.length+1)=N at hB⊢;clear mF lK lu aO cF lF hC fc bc c1 bl gE al hJ';clear J' inn cap J
    rintro n F H ⟨inn,T,J,cap,k,rfl,hk,hN,om,rfl,rfl,hC⟩
    rw[cnH];have lK:=a08 hC.flat;have lu:=λπ=>a05 π hC.flat;by_cases cD:k<x.ins.length
    ·obtain⟨m,hm⟩:∃m,x.ins[k]?=some m:=⟨_,z9e cD⟩
     have db:=h.ins x dN m (c11 hm);have c2:(k:Int)<x.ins.length:=by omega
     have hw:=wI1 (n:=k) (by omega);obtain⟨q,hq⟩:∃q,inn[m]?=some q:=⟨_,z9e (by rw[hC.len];exact db)⟩
     have iX:=hC.len;have da:DepOn c.nodes a m:=gb.snoc (by rw[a16 hx];exact h14) (by rw[a20 hx];exact c11 hm);cases q with
     |true=>
      (repeat first|simp only[ww]|(apply xa;simp+decide only[go_sem,c2,cD,hm,hw,db,hq,iX];rfl;kernel_rfl))
      refine a0x (x.ins.length-(k+1)) (by omega) ⟨_,_,?_,inn,T,J,cap,k+1,rfl,cD,hN,om,rfl,rfl,hC⟩;rw[cnH]
      (simp+decide only[go_sem,a01,a00,a9t,b74,a1q,a2z,lK,lu]<;>rfl)<;>rfl
     |false=>
      have aB:(inn.map b0z).set m [AV.bool true]=(inn.set m true).map b0z:=by rw[f1f];rfl
      have cR:=b9x hq;have o9:T.length+1≤1000000000:=by omega
      have pj:∀J' kb,FlatR J'→(kb=none∨(kb=some 1∧(T++[m]).length+J'.length=1))→Cone c a (inn.set m true) (T++[m]) J' kb:=by
       intro J' kb hf a9;refine⟨by rw[f0l];exact hC.len,?_,?_,hf,a9⟩
       ·intro b hb;rw[e8n]at hb;by_cases oW:m=b
        ·subst oW;exact da
        ·rw[e8g oW]at hb;exact hC.mark b hb
       ·intro s hs;simp only[e9s,e8k]at hs;rcases hs with hs|rfl
        ·exact hC.todo s hs
        ·exact⟨db,da⟩
      have dB:(inn.set m true).count false+(T++[m]).length<N:=by simp;omega
      rcases hC.cap with rfl|⟨rfl,h1⟩
      ·cases J with
       |nil=>
        (repeat first|simp only[ww]|(apply xa;simp+decide only[go_sem,c2,cD,hm,hw,db,hq,iX,aB,o9,e7i];rfl;kernel_rfl))
        refine a0x (x.ins.length-(k+1)) (by omega) ⟨_,_,?_,inn.set m true,T++[m],[],none,k+1,rfl,cD,dB,om,rfl,rfl,pj [] none FlatR.nil (.inl rfl)⟩;rw[cnH]
        (simp+decide only[go_sem,a01,a00,a9t,b74,a1q,a2z,aB,e7i]<;>rfl)<;>rfl
       |cons j js=>
        have aw:¬(T.length=T.length+(js.length+1)):=by omega
        have d8:T.length≤T.length+(js.length+1):=by omega
        have cX:(T.map a0f++(j::js)).take T.length=T.map a0f:=by rw[List.take_append_of_le_length (by simp)];exact b8o a0f T
        (repeat first|simp only[ww]|(apply xa;simp+decide only[go_sem,c2,cD,hm,hw,db,hq,iX,aB,o9,aw,d8,cX,e7g];rfl;kernel_rfl))
        refine a0x (x.ins.length-(k+1)) (by omega) ⟨_,_,?_,inn.set m true,T++[m],[],none,k+1,rfl,cD,dB,om,rfl,rfl,pj [] none FlatR.nil (.inl rfl)⟩;rw[cnH]
        (simp+decide only[go_sem,a01,a00,a9t,b74,a1q,a2z,aB,e7i]<;>rfl)<;>rfl
      ·cases T with
       |nil=>
        obtain⟨j,rfl⟩:∃j,J=[j]:=by
         cases J with
         |nil=>simp at h1
         |cons j js=>cases js with
          |nil=>exact⟨j,rfl⟩
          |cons=>simp only[e7g,e8c]at h1;omega
        (repeat first|simp only[ww]|(apply xa;simp+decide only[go_sem,c2,cD,hm,hw,db,hq,iX,aB,o9,e7j,e7l,e8c,e7g];rfl;kernel_rfl))
        refine a0x (x.ins.length-(k+1)) (by omega) ⟨_,_,?_,inn.set m true,[m],[],some 1,k+1,rfl,cD,dB,om,rfl,rfl,pj [] (some 1) FlatR.nil (.inr ⟨rfl,rfl⟩)⟩;rw[cnH]
        (simp+decide only[go_sem,a01,a00,a9t,b74,a1q,a2z,aB,e7i,e12,e7j]<;>rfl)<;>rfl
       |cons t0 ts=>
        obtain rfl:ts=[]:=by cases ts with
         |nil=>rfl
         |cons=>simp only[e7g,e8c]at h1;omega
        obtain rfl:J=[]:=by cases J with
         |nil=>rfl
         |cons=>simp only[e7g,e8c]at h1;omega
        (repeat first|simp only[ww]|(apply xa;simp+decide only[go_sem,c2,cD,hm,hw,db,hq,iX,aB,o9,e7j,e7l,e8c,e7g,e12,e7i];rfl;kernel_rfl))
        refine a0x (x.ins.length-(k+1)) (by omega) ⟨_,_,?_,inn.set m true,[t0,m],[],none,k+1,rfl,cD,dB,om,rfl,rfl,pj [] none FlatR.nil (.inl rfl)⟩;rw[cnH]
        (simp+decide only[go_sem,a01,a00,a9t,b74,a1q,a2z,aB,e7i,e12,e7j]<;>rfl)<;>rfl
    ·obtain rfl:k=x.ins.length:=by omega
     have c2:¬(x.ins.length:Int)<x.ins.length:=by omega
     (repeat first|simp only[ww]|(apply xa;simp+decide only[go_sem,c2];rfl;kernel_rfl))
     refine a0x (inn.count false+T.length) hN ⟨_,_,?_,inn,T,J,cap,rfl,by omega,rfl,rfl,hC⟩;rw[cnH]
     (simp+decide only[go_sem,a01,a00,a9t,b74,a1q,a2z,lK,lu]<;>rfl)<;>rfl
set_option maxHeartbeats 200000000
attribute [go_sem] Flt.enc
theorem c01(c:Cir)(h:c.wf)(a:Nat)(ha:a<c.nodes.length):∃l:List Bool,l.length=c.nodes.length∧(∀b:Nat,l[b]?=some true→DepOn c.nodes a b)∧∀(d:Bool) (H:a03),a0a L.env d (sem L.env Mf) (.func (.func 100) [] []) [.agg c.enc,.int .i64 a] H=some (.islice (l.map b0z) (some c.nodes.length),H,[]):=by obtain⟨r,⟨l,h1,h2,rfl⟩,h3⟩:=d9h c h a ha;exact⟨l,h1,h2,λd H=>a04 (by kernel_rfl) (by kernel_rfl) rfl (by simp only[a06,a0n,Cir.enc,go_sem]) h3 rfl⟩
theorem b1f(c:Cir)(h:c.wf)(a b:Nat)(ha:a<c.nodes.length)(hb:b<c.nodes.length):∃q:Bool,(DepOn c.nodes a b→q=true)∧∀(d:Bool) (H:a03),a0a L.env d (sem L.env Mf) (.func (.func 99) [] []) [.agg c.enc,.int .i64 a,.int .i64 b,.int .i64 0] H=some (.bool q,H,[]):=by have hn:=h.len;obtain⟨q,h1,h2⟩:=c60 c h b hb (c.nodes.length+1) 0 a (by omega) ha (by omega);exact⟨q,λhr=>h1 (by omega) hr,λd H=>a04 (by kernel_rfl) (by kernel_rfl) rfl (by simp only[a06,a0n,Cir.enc,go_sem]) h2 rfl⟩
theorem b9s{l:List Bool}{b n:Nat}(hl:l.length=n)(hb:b<n){P:Prop}(h:l[b]?=some true→P)(hP:¬P):l[b]?=some false:=by
 obtain⟨q,hq⟩:∃q,l[b]?=some q:=⟨_,z9e (by omega)⟩
 cases q with
 |false=>exact hq
 |true=>exact absurd (h hq) hP
theorem d0z(c:Cir)(h:c.wf)(f:Flt)(hf:FltOk c.nodes f)(hm:f.model≠0):sem L.env Mf 54 [.agg c.enc,.agg f.enc] []=some (.int .i64 0,[]):=by
 obtain⟨b1,b2,b3,b4,b5,b6,b7,b8⟩:=hf.bridge hm;obtain⟨x,hx⟩:∃x,c.nodes[f.node]?=some x:=⟨_,z9e hf.node⟩
 obtain⟨y,hy⟩:∃y,c.nodes[f.other]?=some y:=⟨_,z9e hf.other⟩
 rw[a16 hx]at b5;rw[a16 hy]at b6;obtain⟨l1,sN,sM,fC⟩:=c01 c h f.node hf.node;obtain⟨l2,sL,sK,fm⟩:=c01 c h f.other hf.other;have g1:=b9s sN hf.other (sM f.other) b7;have g2:=b9s sL hf.node (sK f.node) b8;have fC:=fC false;have fm:=fm false;have c0:¬(f.other:Int)<0:=by omega
 have c1:¬(c.nodes.length:Int)≤f.other:=by have:=hf.other;omega
 have c2:¬(f.node:Int)=f.other:=by omega
 have c3:¬(x.kind:Int)=12:=by omega
 have c4:¬(y.kind:Int)=12:=by omega
 have bf:=hf.node;have cZ:=hf.other;have eW:f.model=2∨f.model=3:=by rcases hf.model with e|e|e;exact absurd e hm;exact .inl e;exact .inr e
 simp only[Cir.enc]at fC fm;simp only[Cir.enc,Flt.enc];rw[b1];rcases eW with e|e
 ·have c5:¬(f.other:Int)<f.node:=by have:=b3 e;omega
  rw[e]
  (refine sv Tryz.f54 ?_;simp only[Tryz.f54,gS])
  (repeat first|simp only[ww]|(apply xa;simp+decide only[go_sem,c0,c1,c2,c3,c4,c5,hx,hy,fC,fm,g1,g2,bf,cZ];rfl;kernel_rfl))
  (apply fqb;simp+decide only[go_sem]<;>rfl)
 ·have hv:=b4 e;rw[e,hv]
  (refine sv Tryz.f54 ?_;simp only[Tryz.f54,gS])
  (repeat first|simp only[ww]|(apply xa;simp+decide only[go_sem,c0,c1,c2,c3,c4,hx,hy,fC,fm,g1,g2,bf,cZ];rfl;kernel_rfl))
  (apply fqb;simp+decide only[go_sem]<;>rfl)
theorem d0c(c:Cir)(h:c.wf)(f:Flt)(hf:FltOk c.nodes f):sem L.env Mf 21 [.agg c.enc,.agg f.enc] []=some (.int .i64 0,[]):=by
 have hv:=λH=>c20 (d:=false) H c h;have hl:=λH=>c5w (d:=false) H c h f.node f.pin hf.node hf.pin.1 hf.pin.2;have cz:=hf.value;have c2:¬(1:Int)<f.value:=by omega
 by_cases hm:f.model=0
 ·have ho:=hf.stuck hm;simp only[Cir.enc]at hv hl;simp only[Cir.enc,Flt.enc,hm,ho]
  (refine sv Tryz.f21 ?_;simp only[Tryz.f21,gS])
  (repeat first|simp only[ww]|(apply xa;simp+decide only[go_sem,hv,hl,c2];rfl;kernel_rfl))
  (apply fqb;simp+decide only[go_sem]<;>rfl)
 ·have hb:=λH=>a04 (E:=L.env) (ag:=false) (call:=sem L.env Mf) (g:=54) (fs:=[]) (cs:=[]) (ar:=[.agg c.enc,.agg f.enc]) (H:=H) (by kernel_rfl) (by kernel_rfl) rfl (by simp only[e7l,e7i,a06,a0n,Cir.enc,go_sem]) (d0z c h f hf hm) rfl;have eW:f.model=2∨f.model=3:=by rcases hf.model with e|e|e;exact absurd e hm;exact .inl e;exact .inr e
  have c1:¬(3:Int)<f.model:=by omega
  have c3:(2:Int)≤f.model:=by omega
  simp only[Cir.enc]at hv hl;simp only[Cir.enc,Flt.enc]at hb⊢
  (refine sv Tryz.f21 ?_;simp only[Tryz.f21,gS])
  (repeat first|simp only[ww]|(apply xa;simp+decide only[go_sem,hv,hl,c1,c2,c3,hb];rfl;kernel_rfl))
  (apply fqb;simp+decide only[go_sem]<;>rfl)
theorem a9b{d:Bool}(H:a03)(c:Cir)(h:c.wf)(f:Flt)(hf:FltOk c.nodes f):a0a L.env d (sem L.env Mf) (.func (.func 21) [] []) [.agg c.enc,.agg f.enc] H=some (.int .i64 0,H,[]):=a04 (by kernel_rfl) (by kernel_rfl) rfl (by simp only[a06,a0n,Cir.enc,go_sem]) (d0c c h f hf) rfl
/- the statements' own check of a bridge -/
structure Cand(nodes:List Nd)(f:Flt):Prop where
 model:f.model=2∨f.model=3
 node:f.node<nodes.length
 pin:f.pin = -1
 value:f.value≤1
 other:f.other<nodes.length
 wired:f.model=2→f.node≤f.other
 strong:f.model=3→f.value=0
theorem c95(c:Cir)(h:c.wf)(f:Flt)(hf:Cand c.nodes f):∃e:Nat,(e=0→FltOk c.nodes f)∧sem L.env Mf 51 [.agg c.enc,.agg f.enc] []=some (.int .i64 e,[]):=by
 obtain⟨x,hx⟩:∃x,c.nodes[f.node]?=some x:=⟨_,z9e hf.node⟩
 obtain⟨y,hy⟩:∃y,c.nodes[f.other]?=some y:=⟨_,z9e hf.other⟩
 have cz:=hf.value;have dE:=hf.pin;have bf:=hf.node;have cZ:=hf.other;have c0:¬(1:Int)<f.value:=by omega
 have c1:¬(f.node:Int)<0:=by omega
 have c2:¬(c.nodes.length:Int)≤f.node:=by omega
 have c3:¬(x.ins.length:Int)≤ -1:=by omega
 have c4:¬(f.other:Int)<0:=by omega
 have c5:¬(c.nodes.length:Int)≤f.other:=by omega
 have e1:¬((-1:Int) < -1):=by omega
 by_cases cK:f.node=f.other
 ·have c6:decide ((f.node:Int)=f.other)=true:=e9w (by omega);refine⟨1,by omega,?_⟩;simp only[Cir.enc,Flt.enc,dE];rcases hf.model with e|e
  ·rw[e]
   (refine sv Tryz.f51 ?_;simp only[Tryz.f51,gS])
   (repeat first|simp only[ww]|(apply xa;simp+decide only[go_sem,c0,c1,c2,c3,c4,c5,c6,hx,hy,bf,cZ,e1];rfl;kernel_rfl))
   (apply fqb;simp+decide only[go_sem]<;>rfl)
  ·rw[e]
   (refine sv Tryz.f51 ?_;simp only[Tryz.f51,gS])
   (repeat first|simp only[ww]|(apply xa;simp+decide only[go_sem,c0,c1,c2,c3,c4,c5,c6,hx,hy,bf,cZ,e1];rfl;kernel_rfl))
   (apply fqb;simp+decide only[go_sem]<;>rfl)
 have c6:¬(f.node:Int)=f.other:=by omega
 by_cases k1:x.kind=12∨y.kind=12
 ·refine⟨7,by omega,?_⟩;simp only[Cir.enc,Flt.enc,dE];by_cases kx:x.kind=12
  ·have c7:decide ((x.kind:Int)=12)=true:=e9w (by omega);rcases hf.model with e|e
   ·have c9:¬(f.other:Int)<f.node:=by have:=hf.wired e;omega
    rw[e]
    (refine sv Tryz.f51 ?_;simp only[Tryz.f51,gS])
    (repeat first|simp only[ww]|(apply xa;simp+decide only[go_sem,c0,c1,c2,c3,c4,c5,c6,c7,c9,hx,hy,bf,cZ,e1];rfl;kernel_rfl))
    (apply fqb;simp+decide only[go_sem]<;>rfl)
   ·have hv:=hf.strong e;rw[e,hv]
    (refine sv Tryz.f51 ?_;simp only[Tryz.f51,gS])
    (repeat first|simp only[ww]|(apply xa;simp+decide only[go_sem,c0,c1,c2,c3,c4,c5,c6,c7,hx,hy,bf,cZ,e1];rfl;kernel_rfl))
    (apply fqb;simp+decide only[go_sem]<;>rfl)
  ·have c7:¬(x.kind:Int)=12:=by omega
   have c8:decide ((y.kind:Int)=12)=true:=e9w (by omega);rcases hf.model with e|e
   ·have c9:¬(f.other:Int)<f.node:=by have:=hf.wired e;omega
    rw[e]
    (refine sv Tryz.f51 ?_;simp only[Tryz.f51,gS])
    (repeat first|simp only[ww]|(apply xa;simp+decide only[go_sem,c0,c1,c2,c3,c4,c5,c6,c7,c8,c9,hx,hy,bf,cZ,e1];rfl;kernel_rfl))
    (apply fqb;simp+decide only[go_sem]<;>rfl)
   ·have hv:=hf.strong e;rw[e,hv]
    (refine sv Tryz.f51 ?_;simp only[Tryz.f51,gS])
    (repeat first|simp only[ww]|(apply xa;simp+decide only[go_sem,c0,c1,c2,c3,c4,c5,c6,c7,c8,hx,hy,bf,cZ,e1];rfl;kernel_rfl))
    (apply fqb;simp+decide only[go_sem]<;>rfl)
 have kx:¬x.kind=12:=λe=>k1 (.inl e);have ky:¬y.kind=12:=λe=>k1 (.inr e);have c7:¬(x.kind:Int)=12:=by omega
 have c8:¬(y.kind:Int)=12:=by omega
 obtain⟨q1,r1,d1⟩:=b1f c h f.node f.other bf cZ;obtain⟨q2,r2,d2⟩:=b1f c h f.other f.node cZ bf;have d1:=d1 false;have d2:=d2 false;simp only[Cir.enc]at d1 d2;have eP:q1=false→q2=false→FltOk c.nodes f:=by
  rintro rfl rfl
  refine⟨.inr hf.model,bf,by omega,cz,cZ,λe=>by rcases hf.model with e2|e2<;>omega,λ_=>⟨dE,cK,hf.wired,hf.strong,by rw[a16 hx];exact kx,by rw[a16 hy];exact ky,λhr=>absurd (r1 hr) (by decide),λhr=>absurd (r2 hr) (by decide)⟩⟩
 refine⟨if q1||q2 then 6 else 0,?_,?_⟩
 ·intro e;cases q1<;>cases q2<;>first|exact eP rfl rfl|(simp at e)
 ·simp only[Cir.enc,Flt.enc,dE];rcases hf.model with e|e
  ·have c9:¬(f.other:Int)<f.node:=by have:=hf.wired e;omega
   rw[e];cases q1<;>cases q2
   all_goals
    (refine sv Tryz.f51 ?_;simp only[Tryz.f51,gS])
    (repeat first|simp only[ww]|(apply xa;simp+decide only[go_sem,c0,c1,c2,c3,c4,c5,c6,c7,c8,c9,hx,hy,bf,cZ,e1,d1,d2];rfl;kernel_rfl))
    (apply fqb;simp+decide only[go_sem]<;>rfl)
  ·have hv:=hf.strong e;rw[e,hv];cases q1<;>cases q2
   all_goals
    (refine sv Tryz.f51 ?_;simp only[Tryz.f51,gS])
    (repeat first|simp only[ww]|(apply xa;simp+decide only[go_sem,c0,c1,c2,c3,c4,c5,c6,c7,c8,hx,hy,bf,cZ,e1,d1,d2];rfl;kernel_rfl))
    (apply fqb;simp+decide only[go_sem]<;>rfl)
theorem a4n(c:Cir)(h:c.wf)(f:Flt)(hf:Cand c.nodes f):∃e:Nat,(e=0→FltOk c.nodes f)∧∀(d:Bool) (H:a03),a0a L.env d (sem L.env Mf) (.func (.func 51) [] []) [.agg c.enc,.agg f.enc] H=some (.int .i64 e,H,[]):=by obtain⟨e,h1,h2⟩:=c95 c h f hf;exact⟨e,h1,λd H=>a04 (by kernel_rfl) (by kernel_rfl) rfl (by simp only[a06,a0n,Cir.enc,go_sem]) h2 rfl⟩
structure FX where
 model:Nat
 node:Nat
 pin:Nat
 other:Nat
 one:Bool
def FX.enc(f:FX):List AV:=[.int .u8 f.model,.int .u8 f.node,.int .u8 f.pin,.int .u8 f.other,.bool f.one]
structure FX.ok(f:FX):Prop where
 model:f.model<256
 node:f.node<256
 pin:f.pin<256
 other:f.other<256
attribute [go_sem] FX.enc
theorem a67{nodes:List Nd}{a p v:Nat}{x:Nd}(hx:nodes[a]?=some x)(hv:v≤1):FltOk nodes ⟨0,a,((p%(x.ins.length+1):Nat):Int)-1,v,0⟩:=by have ha:=(e7k.1 hx).1;have hp:=f4n p (show 0<x.ins.length+1 by omega);refine⟨.inl rfl,ha,?_,hv,by show 0<nodes.length;omega,λ_=>rfl,λh=>absurd rfl h⟩;show -1≤((p%(x.ins.length+1):Nat):Int)-1∧((p%(x.ins.length+1):Nat):Int)-1<(a2q nodes a).length;rw[a20 hx];generalize p%(x.ins.length+1)=q at hp⊢;omega
theorem e3n(c:Cir)(h:c.wf)(f:FX)(hf:f.ok)(hm:f.model%4≠1):∃r:AV×a03,(∃g,FltOk c.nodes g∧r=(.agg g.enc,[]))∧sem L.env Mf 20 [.agg f.enc,.agg c.enc] []=some r:=by
 obtain⟨f1,f2,f3,f4⟩:=hf;have hn:=h.len;have hp:=h.pos;have c0:¬(c.nodes.length:Int)=0:=by omega
 have aU:f.node%c.nodes.length<c.nodes.length:=f4n _ hp;have ep:f.other%c.nodes.length<c.nodes.length:=f4n _ hp;have w1:=wB (n:=f.model%4) (by omega);have w2:=wI (n:=f.node) (by omega);have w3:=wI (n:=f.node%c.nodes.length) (by omega);have w4:=wI (n:=f.other) (by omega);have w5:=wI (n:=f.other%c.nodes.length) (by omega);have w6:=wI (n:=f.pin) (by omega);have dE:∀x:Nd,x∈c.nodes→IntKind.i64.wrap ((x.ins.length:Int)+1)=((x.ins.length+1:Nat):Int)∧IntKind.i64.wrap ((f.pin%(x.ins.length+1):Nat):Int)=((f.pin%(x.ins.length+1):Nat):Int)∧IntKind.i64.wrap (((f.pin%(x.ins.length+1):Nat):Int)-1)=((f.pin%(x.ins.length+1):Nat):Int)-1∧¬((x.ins.length+1:Nat):Int)=0:=by intro x hx;have:=h.insl hx;have hq:=f4n f.pin (show 0<x.ins.length+1 by omega);generalize f.pin%(x.ins.length+1)=q at hq⊢;exact⟨wI1 (by omega),wI (by omega),w64 (by omega) (by omega),by omega⟩
 generalize hN1:f.node%c.nodes.length=nd at aU w3;generalize dB:f.other%c.nodes.length=ot at ep w5;have eW:f.model%4=0∨f.model%4=2∨f.model%4=3:=by omega
 rcases eW with jw|bM|fP
 ·obtain⟨x,hx⟩:∃x,c.nodes[nd]?=some x:=⟨_,z9e aU⟩
  obtain⟨p1,p2,p3,p4⟩:=dE x (c11 hx);cases ho:f.one
  ·simp only[Cir.enc,FX.enc,ho]
   (refine svE Tryz.f20 ?_;simp only[Tryz.f20,gS])
   (repeat first|simp only[ww]|(apply xa;simp+decide only[go_sem,c0,w1,w2,w3,w6,hN1,jw,hx,aU,p1,p2,p3,p4];rfl;kernel_rfl))
   refine a21 (vs:=[.agg (Flt.enc ⟨0,nd,((f.pin%(x.ins.length+1):Nat):Int)-1,0,0⟩)]) (r:=(.agg (Flt.enc ⟨0,nd,((f.pin%(x.ins.length+1):Nat):Int)-1,0,0⟩),[])) (by simp+decide only[go_sem,jw,hx,hN1,p1,p2,p3,p4]<;>rfl) ?_ ⟨_,a67 hx (p:=f.pin) (v:=0) (by omega),rfl⟩;simp+decide only[go_sem]
  ·simp only[Cir.enc,FX.enc,ho]
   (refine svE Tryz.f20 ?_;simp only[Tryz.f20,gS])
   (repeat first|simp only[ww]|(apply xa;simp+decide only[go_sem,c0,w1,w2,w3,w6,hN1,jw,hx,aU,p1,p2,p3,p4];rfl;kernel_rfl))
   refine a21 (vs:=[.agg (Flt.enc ⟨0,nd,((f.pin%(x.ins.length+1):Nat):Int)-1,1,0⟩)]) (r:=(.agg (Flt.enc ⟨0,nd,((f.pin%(x.ins.length+1):Nat):Int)-1,1,0⟩),[])) (by simp+decide only[go_sem,jw,hx,hN1,p1,p2,p3,p4]<;>rfl) ?_ ⟨_,a67 hx (p:=f.pin) (v:=1) (by omega),rfl⟩;simp+decide only[go_sem]
 ·by_cases aj:ot<nd
  ·have jJ:(ot:Int)<nd:=by omega
   cases ho:f.one
   ·obtain⟨e,he,dg⟩:=a4n c h ⟨2,ot,-1,0,nd⟩ ⟨.inl rfl,ep,rfl,by show 0≤1;omega,aU,λ_=>by show ot≤nd;omega,λhh=>by have hh:(2:Nat)=3:=hh;omega⟩;have dg:∀H,a0a L.env false (sem L.env Mf) (.func (.func 51) [] []) [.agg [sl c.nc (c.nodes.map Nd.enc),sl c.mc (c.names.map a1c),.nilslice,sl c.oc (c.outs.map a0f)],.agg [.int .u8 ((2:Nat):Int),.int .i64 ot,.int .i64 (-1),.int .u8 0,.int .i64 nd]] H=some (.int .i64 e,H,[]):=dg false;obtain⟨x,hx⟩:∃x,c.nodes[ot]?=some x:=⟨_,z9e ep⟩
    obtain⟨p1,p2,p3,p4⟩:=dE x (c11 hx);simp only[Cir.enc,FX.enc,ho];by_cases gW:e=0
    ·subst gW
     (refine svE Tryz.f20 ?_;simp only[Tryz.f20,gS])
     (repeat first|simp only[ww]|(apply xa;simp+decide only[go_sem,c0,w1,w2,w3,w4,w5,w6,hN1,dB,bM,hx,aU,ep,p1,p2,p3,p4,dg,jJ];rfl;kernel_rfl))
     refine a21 (vs:=[.agg (Flt.enc ⟨2,ot,-1,0,nd⟩)]) (r:=(.agg (Flt.enc ⟨2,ot,-1,0,nd⟩),[])) (by simp+decide only[go_sem,bM,hN1,dB]<;>rfl) ?_ ⟨_,he rfl,rfl⟩;simp+decide only[go_sem]
    ·have ce:¬(e:Int)=0:=by omega
     (refine svE Tryz.f20 ?_;simp only[Tryz.f20,gS])
     (repeat first|simp only[ww]|(apply xa;simp+decide only[go_sem,c0,w1,w2,w3,w4,w5,w6,hN1,dB,bM,hx,aU,ep,p1,p2,p3,p4,dg,ce,jJ];rfl;kernel_rfl))
     refine a21 (vs:=[.agg (Flt.enc ⟨0,ot,((f.pin%(x.ins.length+1):Nat):Int)-1,0,0⟩)]) (r:=(.agg (Flt.enc ⟨0,ot,((f.pin%(x.ins.length+1):Nat):Int)-1,0,0⟩),[])) (by simp+decide only[go_sem,hx,hN1,dB,p1,p2,p3,p4]<;>rfl) ?_ ⟨_,a67 hx (p:=f.pin) (v:=0) (by omega),rfl⟩;simp+decide only[go_sem]
   ·obtain⟨e,he,dg⟩:=a4n c h ⟨2,ot,-1,1,nd⟩ ⟨.inl rfl,ep,rfl,by show 1≤1;omega,aU,λ_=>by show ot≤nd;omega,λhh=>by have hh:(2:Nat)=3:=hh;omega⟩;have dg:∀H,a0a L.env false (sem L.env Mf) (.func (.func 51) [] []) [.agg [sl c.nc (c.nodes.map Nd.enc),sl c.mc (c.names.map a1c),.nilslice,sl c.oc (c.outs.map a0f)],.agg [.int .u8 ((2:Nat):Int),.int .i64 ot,.int .i64 (-1),.int .u8 1,.int .i64 nd]] H=some (.int .i64 e,H,[]):=dg false;obtain⟨x,hx⟩:∃x,c.nodes[ot]?=some x:=⟨_,z9e ep⟩
    obtain⟨p1,p2,p3,p4⟩:=dE x (c11 hx);simp only[Cir.enc,FX.enc,ho];by_cases gW:e=0
    ·subst gW
     (refine svE Tryz.f20 ?_;simp only[Tryz.f20,gS])
     (repeat first|simp only[ww]|(apply xa;simp+decide only[go_sem,c0,w1,w2,w3,w4,w5,w6,hN1,dB,bM,hx,aU,ep,p1,p2,p3,p4,dg,jJ];rfl;kernel_rfl))
     refine a21 (vs:=[.agg (Flt.enc ⟨2,ot,-1,1,nd⟩)]) (r:=(.agg (Flt.enc ⟨2,ot,-1,1,nd⟩),[])) (by simp+decide only[go_sem,bM,hN1,dB]<;>rfl) ?_ ⟨_,he rfl,rfl⟩;simp+decide only[go_sem]
    ·have ce:¬(e:Int)=0:=by omega
     (refine svE Tryz.f20 ?_;simp only[Tryz.f20,gS])
     (repeat first|simp only[ww]|(apply xa;simp+decide only[go_sem,c0,w1,w2,w3,w4,w5,w6,hN1,dB,bM,hx,aU,ep,p1,p2,p3,p4,dg,ce,jJ];rfl;kernel_rfl))
     refine a21 (vs:=[.agg (Flt.enc ⟨0,ot,((f.pin%(x.ins.length+1):Nat):Int)-1,1,0⟩)]) (r:=(.agg (Flt.enc ⟨0,ot,((f.pin%(x.ins.length+1):Nat):Int)-1,1,0⟩),[])) (by simp+decide only[go_sem,hx,hN1,dB,p1,p2,p3,p4]<;>rfl) ?_ ⟨_,a67 hx (p:=f.pin) (v:=1) (by omega),rfl⟩;simp+decide only[go_sem]
  ·have jJ:¬(ot:Int)<nd:=by omega
   cases ho:f.one
   ·obtain⟨e,he,dg⟩:=a4n c h ⟨2,nd,-1,0,ot⟩ ⟨.inl rfl,aU,rfl,by show 0≤1;omega,ep,λ_=>by show nd≤ot;omega,λhh=>by have hh:(2:Nat)=3:=hh;omega⟩;have dg:∀H,a0a L.env false (sem L.env Mf) (.func (.func 51) [] []) [.agg [sl c.nc (c.nodes.map Nd.enc),sl c.mc (c.names.map a1c),.nilslice,sl c.oc (c.outs.map a0f)],.agg [.int .u8 ((2:Nat):Int),.int .i64 nd,.int .i64 (-1),.int .u8 0,.int .i64 ot]] H=some (.int .i64 e,H,[]):=dg false;obtain⟨x,hx⟩:∃x,c.nodes[nd]?=some x:=⟨_,z9e aU⟩
    obtain⟨p1,p2,p3,p4⟩:=dE x (c11 hx);simp only[Cir.enc,FX.enc,ho];by_cases gW:e=0
    ·subst gW
     (refine svE Tryz.f20 ?_;simp only[Tryz.f20,gS])
     (repeat first|simp only[ww]|(apply xa;simp+decide only[go_sem,c0,w1,w2,w3,w4,w5,w6,hN1,dB,bM,hx,aU,ep,p1,p2,p3,p4,dg,jJ];rfl;kernel_rfl))
     refine a21 (vs:=[.agg (Flt.enc ⟨2,nd,-1,0,ot⟩)]) (r:=(.agg (Flt.enc ⟨2,nd,-1,0,ot⟩),[])) (by simp+decide only[go_sem,bM,hN1,dB]<;>rfl) ?_ ⟨_,he rfl,rfl⟩;simp+decide only[go_sem]
    ·have ce:¬(e:Int)=0:=by omega
     (refine svE Tryz.f20 ?_;simp only[Tryz.f20,gS])
     (repeat first|simp only[ww]|(apply xa;simp+decide only[go_sem,c0,w1,w2,w3,w4,w5,w6,hN1,dB,bM,hx,aU,ep,p1,p2,p3,p4,dg,ce,jJ];rfl;kernel_rfl))
     refine a21 (vs:=[.agg (Flt.enc ⟨0,nd,((f.pin%(x.ins.length+1):Nat):Int)-1,0,0⟩)]) (r:=(.agg (Flt.enc ⟨0,nd,((f.pin%(x.ins.length+1):Nat):Int)-1,0,0⟩),[])) (by simp+decide only[go_sem,hx,hN1,dB,p1,p2,p3,p4]<;>rfl) ?_ ⟨_,a67 hx (p:=f.pin) (v:=0) (by omega),rfl⟩;simp+decide only[go_sem]
   ·obtain⟨e,he,dg⟩:=a4n c h ⟨2,nd,-1,1,ot⟩ ⟨.inl rfl,aU,rfl,by show 1≤1;omega,ep,λ_=>by show nd≤ot;omega,λhh=>by have hh:(2:Nat)=3:=hh;omega⟩;have dg:∀H,a0a L.env false (sem L.env Mf) (.func (.func 51) [] []) [.agg [sl c.nc (c.nodes.map Nd.enc),sl c.mc (c.names.map a1c),.nilslice,sl c.oc (c.outs.map a0f)],.agg [.int .u8 ((2:Nat):Int),.int .i64 nd,.int .i64 (-1),.int .u8 1,.int .i64 ot]] H=some (.int .i64 e,H,[]):=dg false;obtain⟨x,hx⟩:∃x,c.nodes[nd]?=some x:=⟨_,z9e aU⟩
    obtain⟨p1,p2,p3,p4⟩:=dE x (c11 hx);simp only[Cir.enc,FX.enc,ho];by_cases gW:e=0
    ·subst gW
     (refine svE Tryz.f20 ?_;simp only[Tryz.f20,gS])
     (repeat first|simp only[ww]|(apply xa;simp+decide only[go_sem,c0,w1,w2,w3,w4,w5,w6,hN1,dB,bM,hx,aU,ep,p1,p2,p3,p4,dg,jJ];rfl;kernel_rfl))
     refine a21 (vs:=[.agg (Flt.enc ⟨2,nd,-1,1,ot⟩)]) (r:=(.agg (Flt.enc ⟨2,nd,-1,1,ot⟩),[])) (by simp+decide only[go_sem,bM,hN1,dB]<;>rfl) ?_ ⟨_,he rfl,rfl⟩;simp+decide only[go_sem]
    ·have ce:¬(e:Int)=0:=by omega
     (refine svE Tryz.f20 ?_;simp only[Tryz.f20,gS])
     (repeat first|simp only[ww]|(apply xa;simp+decide only[go_sem,c0,w1,w2,w3,w4,w5,w6,hN1,dB,bM,hx,aU,ep,p1,p2,p3,p4,dg,ce,jJ];rfl;kernel_rfl))
     refine a21 (vs:=[.agg (Flt.enc ⟨0,nd,((f.pin%(x.ins.length+1):Nat):Int)-1,1,0⟩)]) (r:=(.agg (Flt.enc ⟨0,nd,((f.pin%(x.ins.length+1):Nat):Int)-1,1,0⟩),[])) (by simp+decide only[go_sem,hx,hN1,dB,p1,p2,p3,p4]<;>rfl) ?_ ⟨_,a67 hx (p:=f.pin) (v:=1) (by omega),rfl⟩;simp+decide only[go_sem]
 ·cases ho:f.one
  ·obtain⟨e,he,dg⟩:=a4n c h ⟨3,nd,-1,0,ot⟩ ⟨.inr rfl,aU,rfl,by show 0≤1;omega,ep,λhh=>by have hh:(3:Nat)=2:=hh;omega,λ_=>rfl⟩;have dg:∀H,a0a L.env false (sem L.env Mf) (.func (.func 51) [] []) [.agg [sl c.nc (c.nodes.map Nd.enc),sl c.mc (c.names.map a1c),.nilslice,sl c.oc (c.outs.map a0f)],.agg [.int .u8 ((3:Nat):Int),.int .i64 nd,.int .i64 (-1),.int .u8 0,.int .i64 ot]] H=some (.int .i64 e,H,[]):=dg false;obtain⟨x,hx⟩:∃x,c.nodes[nd]?=some x:=⟨_,z9e aU⟩
   obtain⟨p1,p2,p3,p4⟩:=dE x (c11 hx);simp only[Cir.enc,FX.enc,ho];by_cases gW:e=0
   ·subst gW
    (refine svE Tryz.f20 ?_;simp only[Tryz.f20,gS])
    (repeat first|simp only[ww]|(apply xa;simp+decide only[go_sem,c0,w1,w2,w3,w4,w5,w6,hN1,dB,fP,hx,aU,ep,p1,p2,p3,p4,dg];rfl;kernel_rfl))
    refine a21 (vs:=[.agg (Flt.enc ⟨3,nd,-1,0,ot⟩)]) (r:=(.agg (Flt.enc ⟨3,nd,-1,0,ot⟩),[])) (by simp+decide only[go_sem,fP,hN1,dB]<;>rfl) ?_ ⟨_,he rfl,rfl⟩;simp+decide only[go_sem]
   ·have ce:¬(e:Int)=0:=by omega
    (refine svE Tryz.f20 ?_;simp only[Tryz.f20,gS])
    (repeat first|simp only[ww]|(apply xa;simp+decide only[go_sem,c0,w1,w2,w3,w4,w5,w6,hN1,dB,fP,hx,aU,ep,p1,p2,p3,p4,dg,ce];rfl;kernel_rfl))
    refine a21 (vs:=[.agg (Flt.enc ⟨0,nd,((f.pin%(x.ins.length+1):Nat):Int)-1,0,0⟩)]) (r:=(.agg (Flt.enc ⟨0,nd,((f.pin%(x.ins.length+1):Nat):Int)-1,0,0⟩),[])) (by simp+decide only[go_sem,hx,hN1,dB,p1,p2,p3,p4]<;>rfl) ?_ ⟨_,a67 hx (p:=f.pin) (v:=0) (by omega),rfl⟩;simp+decide only[go_sem]
  ·obtain⟨e,he,dg⟩:=a4n c h ⟨3,nd,-1,0,ot⟩ ⟨.inr rfl,aU,rfl,by show 0≤1;omega,ep,λhh=>by have hh:(3:Nat)=2:=hh;omega,λ_=>rfl⟩;have dg:∀H,a0a L.env false (sem L.env Mf) (.func (.func 51) [] []) [.agg [sl c.nc (c.nodes.map Nd.enc),sl c.mc (c.names.map a1c),.nilslice,sl c.oc (c.outs.map a0f)],.agg [.int .u8 ((3:Nat):Int),.int .i64 nd,.int .i64 (-1),.int .u8 0,.int .i64 ot]] H=some (.int .i64 e,H,[]):=dg false;obtain⟨x,hx⟩:∃x,c.nodes[nd]?=some x:=⟨_,z9e aU⟩
   obtain⟨p1,p2,p3,p4⟩:=dE x (c11 hx);simp only[Cir.enc,FX.enc,ho];by_cases gW:e=0
   ·subst gW
    (refine svE Tryz.f20 ?_;simp only[Tryz.f20,gS])
    (repeat first|simp only[ww]|(apply xa;simp+decide only[go_sem,c0,w1,w2,w3,w4,w5,w6,hN1,dB,fP,hx,aU,ep,p1,p2,p3,p4,dg];rfl;kernel_rfl))
    refine a21 (vs:=[.agg (Flt.enc ⟨3,nd,-1,0,ot⟩)]) (r:=(.agg (Flt.enc ⟨3,nd,-1,0,ot⟩),[])) (by simp+decide only[go_sem,fP,hN1,dB]<;>rfl) ?_ ⟨_,he rfl,rfl⟩;simp+decide only[go_sem]
   ·have ce:¬(e:Int)=0:=by omega
    (refine svE Tryz.f20 ?_;simp only[Tryz.f20,gS])
    (repeat first|simp only[ww]|(apply xa;simp+decide only[go_sem,c0,w1,w2,w3,w4,w5,w6,hN1,dB,fP,hx,aU,ep,p1,p2,p3,p4,dg,ce];rfl;kernel_rfl))
    refine a21 (vs:=[.agg (Flt.enc ⟨0,nd,((f.pin%(x.ins.length+1):Nat):Int)-1,0,0⟩)]) (r:=(.agg (Flt.enc ⟨0,nd,((f.pin%(x.ins.length+1):Nat):Int)-1,0,0⟩),[])) (by simp+decide only[go_sem,hx,hN1,dB,p1,p2,p3,p4]<;>rfl) ?_ ⟨_,a67 hx (p:=f.pin) (v:=0) (by omega),rfl⟩;simp+decide only[go_sem]
attribute [go_sem] Pat.enc
structure PatOk(nodes:List Nd)(p:Pat):Prop where
 ins:p.ins.length=(kinds nodes 0).length
 sts:p.sts.length=(kinds nodes 14).length
 inv:∀v∈p.ins,v≤3
 stv:∀v∈p.sts,v≤3
theorem a3q(nodes:List Nd)(k:Nat):(kinds nodes k).length≤nodes.length:=b3i _ _ _
theorem d4j(c:Cir)(h:c.wf)(k:Nat):sem L.env Mf 91 [.agg c.enc,.int .u8 k] []=some (.int .i64 (kinds c.nodes k).length,[]):=by
 have hn:=h.len;simp only[Cir.enc]
 (refine sv Tryz.f91 ?_;simp only[Tryz.f91,gS])
 (repeat first|simp only[ww]|(apply xa;simp+decide only[go_sem];rfl;kernel_rfl))
 refine a0l (σ:=Nat) kp91_0 (λi=>[(1,.int .u8 k),(2,.ptr 0 0 0),(5,.int .i64 (a3g c.nodes k i).length),(6,.int .i64 i)])
  (λi=>[some (.row 4 [[sl c.nc (c.nodes.map Nd.enc),sl c.mc (c.names.map a1c),.nilslice,sl c.oc (c.outs.map a0f)]])]) (λi=>c.nodes.length-i) (λi=>i≤c.nodes.length) 0 ?_ (e8e _) ?_
 ·have e:a3g c.nodes k 0=[]:=rfl
  (simp+decide only[go_sem,a01,a00,e,e8c]<;>rfl)
 ·intro i hi;by_cases aj:i<c.nodes.length
  ·obtain⟨x,hx⟩:∃x,c.nodes[i]?=some x:=⟨_,z9e aj⟩
   have c1:(i:Int)<c.nodes.length:=by omega
   have hw:=wI1 (n:=i) (by omega);have bl:=b3i c.nodes k i;have gM:=wI1 (n:=(a3g c.nodes k i).length) (by omega);have hs:=b3h c.nodes k i;rw[a16 hx]at hs;by_cases hk:x.kind=k
   ·have ck:decide ((x.kind:Int)=k)=true:=e9w (by omega);rw[e8j hk]at hs;have hl:(a3g c.nodes k (i+1)).length=(a3g c.nodes k i).length+1:=by rw[hs];simp
    (repeat first|simp only[ww]|(apply xa;simp+decide only[go_sem,c1,aj,hx,hw,gM,ck];rfl;kernel_rfl))
    refine a25 (i+1) ?_ (by omega) (by omega)
    (simp+decide only[go_sem,a01,a00,hl]<;>rfl)
   ·have ck:¬(x.kind:Int)=k:=by omega
    rw[e8g hk]at hs
    (repeat first|simp only[ww]|(apply xa;simp+decide only[go_sem,c1,aj,hx,hw,gM,ck];rfl;kernel_rfl))
    refine a25 (i+1) ?_ (by omega) (by omega)
    (simp+decide only[go_sem,a01,a00,hs]<;>rfl)
  ·obtain rfl:i=c.nodes.length:=by omega
   have c1:¬(c.nodes.length:Int)<c.nodes.length:=by omega
   (repeat first|simp only[ww]|(apply xa;simp+decide only[go_sem,c1];rfl;kernel_rfl))
   (apply fqb;simp+decide only[go_sem,kinds]<;>rfl)
theorem b6f{d:Bool}(H:a03)(c:Cir)(h:c.wf){n:Int}(k:Nat)(hk:n=k):a0a L.env d (sem L.env Mf) (.func (.func 91) [] []) [.agg c.enc,.int .u8 n] H=some (.int .i64 (kinds c.nodes k).length,H,[]):=by subst hk;exact a04 (by kernel_rfl) (by kernel_rfl) rfl (by simp only[a06,a0n,Cir.enc,go_sem]) (d4j c h k) rfl
theorem c3v(l:List Nat):(l.map u8R).flatMap a0d=[]:=a08 (FlatR.map λ_=>rfl)
theorem c1a(π:Nat→Option Nat)(l:List Nat):(l.map u8R).map (λr=>r.map (ren π))=l.map u8R:=a05 π (FlatR.map λ_=>rfl)
structure PxOk(p:Pat):Prop where
 inv:∀v∈p.ins,v<256
 stv:∀v∈p.sts,v<256
 inl:p.ins.length<9223372036854775808
 stl:p.sts.length<9223372036854775808
theorem d46(c:Cir)(h:c.wf)(f:FX)(hf:f.ok)(hm:f.model%4≠1):∃g,FltOk c.nodes g∧∀(d:Bool) (H:a03),a0a L.env d (sem L.env Mf) (.func (.func 20) [] []) [.agg f.enc,.agg c.enc] H=some (.agg g.enc,H,[]):=by obtain⟨r,⟨g,h1,rfl⟩,h2⟩:=e3n c h f hf hm;exact⟨g,h1,λd H=>a04 (by kernel_rfl) (by kernel_rfl) rfl (by simp only[a06,a0n,Cir.enc,FX.enc,go_sem]) h2 rfl⟩
/- patterns that fit -/
theorem d5h(v:Nat)(hv:v≤3):sem L.env Mf 105 [.int .u8 v] []=some (.bool false,[]):=by
 have c1:¬(3:Int)<v:=by omega
 (refine sv Tryz.f105 ?_;simp only[Tryz.f105,gS])
 (repeat first|simp only[ww]|(apply xa;simp+decide only[go_sem,c1];rfl;kernel_rfl))
 (apply fqb;simp+decide only[go_sem]<;>rfl)
theorem c6m{d:Bool}(H:a03)(v:Nat)(hv:v≤3):a0a L.env d (sem L.env Mf) (.func (.func 105) [] []) [.int .u8 v] H=some (.bool false,H,[]):=a04 (by kernel_rfl) (by kernel_rfl) rfl rfl (d5h v hv) rfl
def a8y:AV:=.func (.func 105) [] []
theorem c9m(r:Rep)(l:List Nat)(hl:l.length<1000000)(hc:∀v∈l,v≤3) :
 sem L.env Mf 139 [sl r (l.map u8R),a8y] []=some (.int .i64 (-1),[]):=by
 unfold a8y
 (refine sv Tryz.f139 ?_;simp only[Tryz.f139,gS])
 (repeat first|simp only[ww]|(apply xa;simp+decide only[go_sem];rfl;kernel_rfl))
 refine a0l (σ:=Nat) kp139_0 (λi=>[(0,sl r (l.map u8R)),(1,a8y),(7,.int .i64 l.length),(8,.int .i64 i)])
  (λ_=>[]) (λi=>l.length-i) (λi=>i≤l.length) 0 ?_ (e8e _) ?_
 ·unfold a8y
  (simp+decide only[go_sem,a01,a00]<;>rfl)
 ·intro i hi;unfold a8y;by_cases aj:i<l.length
  ·obtain⟨x,hx⟩:∃x,l[i]?=some x:=⟨_,z9e aj⟩
   have c1:(i:Int)<l.length:=by omega
   have hw:=wI1 (n:=i) (by omega);have gX:=λH=>c6m (d:=false) H x (hc x (c11 hx))
   (repeat first|simp only[ww]|(apply xa;simp+decide only[go_sem,c1,aj,hx,hw,gX];rfl;kernel_rfl))
   refine a25 (i+1) ?_ (by omega) (by omega)
   (simp+decide only[go_sem,a01,a00,a8y]<;>rfl)
  ·obtain rfl:i=l.length:=by omega
   have c1:¬(l.length:Int)<l.length:=by omega
   (repeat first|simp only[ww]|(apply xa;simp+decide only[go_sem,c1];rfl;kernel_rfl))
   (apply fqb;simp+decide only[go_sem]<;>rfl)
theorem c63(r:Rep)(l:List Nat)(hl:l.length<1000000)(hc:∀v∈l,v≤3) :
 sem L.env Mf 92 [sl r (l.map u8R),a8y] []=some (.bool false,[]):=by
 have h:=λH=>a04 (E:=L.env) (ag:=false) (call:=sem L.env Mf) (g:=139) (fs:=[]) (cs:=[]) (ar:=[sl r (l.map u8R),a8y]) (H:=H) (by kernel_rfl) (by kernel_rfl) rfl (by simp only[e7l,e7i,a06,a8y,go_sem]) (c9m r l hl hc) rfl;have c1:¬(0:Int)≤ -1:=by omega
 unfold a8y at h⊢
 (refine sv Tryz.f92 ?_;simp only[Tryz.f92,gS])
 (repeat first|simp only[ww]|(apply xa;simp+decide only[go_sem,h,c1];rfl;kernel_rfl))
 (apply fqb;simp+decide only[go_sem]<;>rfl)
theorem b6g{d:Bool}(H:a03)(r:Rep)(l:List Nat)(hl:l.length<1000000)(hc:∀v∈l,v≤3):a0a L.env d (sem L.env Mf) (.func (.func 92) [] []) [sl r (l.map u8R),.func (.func 105) [] []] H=some (.bool false,H,[]):=a04 (by kernel_rfl) (by kernel_rfl) rfl (by simp only[e7l,e7i,a06,go_sem]) (c63 r l hl hc) rfl
theorem d8n(c:Cir)(h:c.wf):kinds c.nodes 15=[]:=by
 unfold kinds a3g;rw[List.filter_eq_nil_iff];intro j hj;have hj:j<c.nodes.length:=by simpa using hj
 obtain⟨x,hx⟩:∃x,c.nodes[j]?=some x:=⟨_,z9e hj⟩
 have:=h.kind x (c11 hx);rw[a16 hx];simp;omega
theorem d98(c:Cir)(h:c.wf)(p:Pat)(hp:PatOk c.nodes p):sem L.env Mf 59 [.agg c.enc,.agg p.enc] []=some (.int .i64 0,[]):=by
 have hn:=h.len;have hk0:=a3q c.nodes 0;have jQ:=a3q c.nodes 14;have l1:=hp.ins;have l2:=hp.sts;have ho:=λX Y=>b1x (d:=false) (H:=[X,Y,some (.row 1 [[.int .u8 15]])]) (b:=2) c (k:=15) rfl (by omega) rfl;rw[d8n c h,c3j]at ho;have hi:=λH=>a3u (d:=true) H c (by omega);have hs:=λH=>a5l (d:=true) H c (by omega);obtain⟨r0,e0⟩:=a4d (kinds c.nodes 0);obtain⟨r1,e1⟩:=a4d (kinds c.nodes 14);rw[e0]at hi;rw[e1]at hs;have fC:=λH=>b6g (d:=false) H p.ic p.ins (by omega) hp.inv;have fm:=λH=>b6g (d:=false) H p.sc p.sts (by omega) hp.stv;simp only[Cir.enc]at ho hi hs;simp only[Cir.enc,Pat.enc]
 (refine sv Tryz.f59 ?_;simp only[Tryz.f59,gS])
 (repeat first|simp only[ww]|(apply xa;simp+decide only[go_sem,ho,hi,hs,fC,fm,l1,l2];rfl;kernel_rfl))
 (apply fqb;simp+decide only[go_sem]<;>rfl)
theorem c78(r:Rep)(l:List Nat)(hv:∀v∈l,v<256)(hl:l.length<9223372036854775808)(n cU:Nat)(hn:n≤100000)(hm:0<cU)(pZ:cU≤4)(fP:3≤cU):∃r':AV×a03,(∃out:List Nat,out.length=n∧(∀v∈out,v≤3)∧r'=(grV 0 (out.map u8R),grH 1 (out.map u8R)))∧sem L.env Mf 90 [sl r (l.map u8R),.int .i64 n,.int .u8 cU] []=some r':=by
 (refine svE Tryz.f90 ?_;simp only[Tryz.f90,gS])
 (repeat first|simp only[ww]|(apply xa;simp+decide only[go_sem];rfl;kernel_rfl))
 refine a3j kp90_0 (λq F H=>∃out:List Nat,q=n-out.length∧out.length≤n∧(∀v∈out,v≤3)∧F=[(0,sl r (l.map u8R)),(1,.int .i64 n),(2,.int .u8 cU),(7,grV 0 (out.map u8R)),(8,.int .i64 out.length)]∧H=grH 1 (out.map u8R)) (n-0) ?_ ?_
 ·refine⟨_,_,?_,[],rfl,e8e _,by simp,rfl,rfl⟩
  (simp+decide only[go_sem,a01,a00,e7j,a0p,a0q]<;>rfl)<;>rfl
 ·rintro q F H ⟨out,rfl,ho,hov,rfl,rfl⟩
  by_cases aj:out.length<n
  ·have c1:(out.length:Int)<n:=by omega
   have hw:=wI1 (n:=out.length) (by omega);have aK:out.length+1≤1000000000:=by omega
   by_cases bl:l=[]
   ·subst bl;cases out with
    |nil=>
     simp only[e8c]at hw c1
     (repeat first|simp only[ww]|(apply xa;simp+decide only[go_sem,c1,hw,e7j,e8c,e7j,a0p,a0q,e8c];rfl;kernel_rfl))
     refine a0x (n-1) (by simp at aj⊢;omega) ⟨_,_,?_,[2],rfl,by simp at aj⊢;omega,by intro u hu;simp only[e8k]at hu;subst hu;omega,rfl,rfl⟩
     (simp+decide only[go_sem,a01,a00,e12,e7j,a09,a0b,e8c,e7g,c3v,c1a]<;>rfl)<;>rfl
    |cons a r2=>
     simp only[e7g]at aK hw c1 aj
     (repeat first|simp only[ww]|(apply xa;simp+decide only[go_sem,c1,hw,e7j,e8c,e12,a09,a0b,aK,e7g];rfl;kernel_rfl))
     refine a0x (n-(r2.length+1+1)) (by simp;omega) ⟨_,_,?_,(a::r2)++[2],by simp,by simp;omega,by intro u hu;rw[e9s]at hu;rcases hu with hu|hu;exact hov u hu;simp only[e8k]at hu;subst hu;omega,rfl,rfl⟩
     (simp+decide only[go_sem,a01,a00,e9h,e12,e7j,a09,a0b,e7g,c3v,c1a]<;>rfl)<;>rfl
   ·have fk:0<l.length:=List.length_pos_iff.2 bl;have cl:¬(l.length:Int)=0:=by omega
    have dl:=f4n out.length fk;obtain⟨u,hu⟩:∃u,l[out.length%l.length]?=some u:=⟨_,z9e dl⟩
    have uz:=hv u (c11 hu);have eW:=f4n u hm;have cm:¬(cU:Int)=0:=by omega
    have w1:=wI (n:=out.length%l.length) (by omega);have w2:=wB (n:=u%cU) (by omega);cases out with
    |nil=>
     simp only[e8c]at dl hu w1 hw c1
     (repeat first|simp only[ww]|(apply xa;simp+decide only[go_sem,c1,hw,cl,dl,hu,cm,w1,w2,e7j,a0p,a0q,e8c];rfl;kernel_rfl))
     refine a0x (n-1) (by simp at aj⊢;omega) ⟨_,_,?_,[u%cU],rfl,by simp at aj⊢;omega,by intro u hu;simp only[e8k]at hu;subst hu;omega,rfl,rfl⟩
     (simp+decide only[go_sem,a01,a00,e12,e7j,a09,a0b,e8c,e7g,c3v,c1a]<;>rfl)<;>rfl
    |cons a r2=>
     simp only[e7g]at aK hw c1 aj dl hu w1
     (repeat first|simp only[ww]|(apply xa;simp+decide only[go_sem,c1,hw,cl,dl,hu,cm,w1,w2,e12,a09,a0b,aK,e7g];rfl;kernel_rfl))
     refine a0x (n-(r2.length+1+1)) (by simp;omega) ⟨_,_,?_,(a::r2)++[u%cU],by simp,by simp;omega,by intro u hu;rw[e9s]at hu;rcases hu with hu|hu;exact hov u hu;simp only[e8k]at hu;subst hu;omega,rfl,rfl⟩
     (simp+decide only[go_sem,a01,a00,e9h,e12,e7j,a09,a0b,e7g,c3v,c1a]<;>rfl)<;>rfl
  ·obtain rfl:n=out.length:=by omega
   have c1:¬(out.length:Int)<out.length:=by omega
   cases out with
   |nil=>
    (repeat first|simp only[ww]|(apply xa;simp+decide only[go_sem,c1,e7j,a0p,a0q];rfl;kernel_rfl))
    refine a21 (vs:=[.nilslice]) (r:=(.nilslice,[])) (by simp+decide only[go_sem]) ?_ ⟨[],rfl,by simp,rfl⟩;simp+decide only[go_sem]
   |cons a r2=>
    simp only[e7g]at c1
    (repeat first|simp only[ww]|(apply xa;simp+decide only[go_sem,c1,e12,a09,a0b,e7g];rfl;kernel_rfl))
    refine a21 (vs:=[.slice 0 0 (r2.length+1) none]) (r:=(.slice 0 0 (r2.length+1) none,[some (.row 1 ((a::r2).map u8R))])) (by simp+decide only[go_sem]) ?_ ⟨a::r2,rfl,hov,by rw[e12,a09,a0b,c10]⟩;rfl
theorem b2h(r:Rep)(l:List Nat)(hv:∀v∈l,v<256)(hl:l.length<9223372036854775808)(n cU:Nat)(hn:n≤100000)(hm:0<cU)(pZ:cU≤4)(fP:3≤cU):∃out:List Nat,out.length=n∧(∀v∈out,v≤3)∧∀(d:Bool) (H:a03) (k:Int),k=cU→a0a L.env d (sem L.env Mf) (.func (.func 90) [] []) [sl r (l.map u8R),.int .i64 n,.int .u8 k] H=some (grV H.length (out.map u8R),H++grH 1 (out.map u8R),[]):=by
 obtain⟨r',⟨out,h1,h2,rfl⟩,h3⟩:=c78 r l hv hl n cU hn hm pZ fP;refine⟨out,h1,h2,λd H k hk=>?_⟩;subst hk;have h:=a9e (E:=L.env) (d:=d) (H:=H) (fs:=[]) (cs:=[]) (ar:=[sl r (l.map u8R),.int .i64 n,.int .u8 cU]) (by kernel_rfl) (by kernel_rfl) rfl (by simp only[e7l,e7i,a06,go_sem]) h3;rw[h];cases out with
 |nil=>rfl
 |cons a t=>have hr:=c1a (a18 [] H.length) t;simp only[e12,a09,a0b,c10,ren,b4d,e7j,e8d,a0e,hr,f3y]<;>rfl
def ptH(n:Nat)(p:Pat)(c:Cir)(a b:List Nat):a03:=[some (.row 2 [[sl p.ic (p.ins.map u8R),sl p.sc (p.sts.map u8R)]]),some (.row 4 [[sl c.nc (c.nodes.map Nd.enc),sl c.mc (c.names.map a1c),.nilslice,sl c.oc (c.outs.map a0f)]]),some (.row 2 [[.slice (n+3) 0 a.length none,grV (n+4) (b.map u8R)]]),some (.row 1 (a.map u8R))]++grH 1 (b.map u8R)
theorem d7v(c:Cir)(h:c.wf)(hk:kinds c.nodes 0≠[])(p:Pat)(hp:PxOk p):∃r:AV×a03,(∃a b:List Nat,PatOk c.nodes ⟨none,a,none,b⟩∧r=(.agg [.slice 3 0 a.length none,grV 4 (b.map u8R)],ptH 0 p c a b))∧sem L.env Mf 43 [.agg p.enc,.agg c.enc] []=some r:=by
 have hn:=h.len;have hk0:=a3q c.nodes 0;have jQ:=a3q c.nodes 14;have lU:=λH=>b6f (d:=true) H c h (n:=0) 0 rfl;have lT:=λH=>b6f (d:=true) H c h (n:=14) 14 rfl;obtain⟨a,a1,a2,ha⟩:=b2h p.ic p.ins hp.inv hp.inl (kinds c.nodes 0).length 4 (by omega) (by omega) (by omega) (by omega);obtain⟨b,b1,b2,hb⟩:=b2h p.sc p.sts hp.stv hp.stl (kinds c.nodes 14).length 3 (by omega) (by omega) (by omega) (by omega);have ha:=λH=>ha true H 4 rfl;have hb:=λH=>hb true H 3 rfl;simp only[Cir.enc]at lU lT;simp only[Cir.enc,Pat.enc];obtain⟨x,a',rfl⟩:∃x a',a=x::a':=by
  cases a with
  |nil=>exact absurd (List.eq_nil_of_length_eq_zero a1.symm) hk
  |cons x r=>exact⟨x,r,rfl⟩
 simp only[e12,a09,a0b,c10]at ha
 (refine svE Tryz.f43 ?_;simp only[Tryz.f43,gS])
 cases b with
 |nil=>
  simp only[e7j,a0p,a0q,e7i]at hb
  (repeat first|simp only[ww]|(apply xa;simp+decide only[go_sem,lU,lT,ha,hb];rfl;kernel_rfl))
  refine a21 (vs:=[.agg [.slice 3 0 (a'.length+1) none,.nilslice]]) (r:=(.agg [.slice 3 0 (a'.length+1) none,.nilslice],_)) (by simp+decide only[go_sem]<;>rfl) ?_ ⟨_,[],⟨a1,b1,a2,b2⟩,rfl⟩;rfl
 |cons y b'=>
  simp only[e12,a09,a0b,c10]at hb
  (repeat first|simp only[ww]|(apply xa;simp+decide only[go_sem,lU,lT,ha,hb];rfl;kernel_rfl))
  refine a21 (vs:=[.agg [.slice 3 0 (a'.length+1) none,.slice 4 0 (b'.length+1) none]]) (r:=(.agg [.slice 3 0 (a'.length+1) none,.slice 4 0 (b'.length+1) none],_)) (by simp+decide only[go_sem]<;>rfl) ?_ ⟨_,y::b',⟨a1,b1,a2,b2⟩,by simp only[e12,a09,c10];rfl⟩;simp only[ptH,e12,a09,a0b,c10];rfl
theorem c88(c:Cir)(h:c.wf)(hk:kinds c.nodes 0≠[])(p:Pat)(hp:PxOk p):∃a b:List Nat,PatOk c.nodes ⟨none,a,none,b⟩∧∀(d:Bool) (H:a03),a0a L.env d (sem L.env Mf) (.func (.func 43) [] []) [.agg p.enc,.agg c.enc] H=some (.agg [.slice (H.length+3) 0 a.length none,grV (H.length+4) (b.map u8R)],H++ptH H.length p c a b,[]):=by
 obtain⟨r,⟨a,b,h1,rfl⟩,h2⟩:=d7v c h hk p hp;refine⟨a,b,h1,λd H=>?_⟩;have hh:=a9e (E:=L.env) (d:=d) (H:=H) (fs:=[]) (cs:=[]) (ar:=[.agg p.enc,.agg c.enc]) (by kernel_rfl) (by kernel_rfl) rfl (by simp only[e7l,e7i,a06,a0n,Cir.enc,Pat.enc,go_sem]) h2;rw[hh];have h3:=λπ=>c1a π a;have h4:=λπ=>c1a π b;have h5:∀(π:Nat→Option Nat) (r:Rep) (aa:List (List AV)),ren π (sl r aa)=sl r aa:=λπ r aa=>a0w π _ (a1b _ _);cases b with
 |nil=>unfold ptH;simp only[e7j,a0p,a0q,e7i,e12,e8d,a0e,h3,h5,ren,b8h,b4d,e9y]<;>rfl
 |cons y b'=>have h6:=h4 (a18 [] H.length);simp only[e12]at h6;unfold ptH;simp only[e12,a09,a0b,c10,e7j,e9h,e7l,e8d,a0e,h3,h5,h6,ren,b8h,b4d,e9y]<;>rfl
theorem d92(c:Cir)(h:c.wf)(f:FX)(hf:f.ok)(bR:f.model%4=1):∃r:AV×a03,(∃nd pin val,FltOk c.nodes ⟨0,nd,pin,val,0⟩∧r=(.agg (Flt.enc ⟨1,nd,pin,val,0⟩),[]))∧sem L.env Mf 20 [.agg f.enc,.agg c.enc] []=some r:=by
 obtain⟨f1,f2,f3,f4⟩:=hf;have hn:=h.len;have hp:=h.pos;have c0:¬(c.nodes.length:Int)=0:=by omega
 have aU:f.node%c.nodes.length<c.nodes.length:=f4n _ hp;have ep:f.other%c.nodes.length<c.nodes.length:=f4n _ hp;have w1:=wB (n:=f.model%4) (by omega);have w2:=wI (n:=f.node) (by omega);have w3:=wI (n:=f.node%c.nodes.length) (by omega);have w4:=wI (n:=f.other) (by omega);have w5:=wI (n:=f.other%c.nodes.length) (by omega);have w6:=wI (n:=f.pin) (by omega);have dE:∀x:Nd,x∈c.nodes→IntKind.i64.wrap ((x.ins.length:Int)+1)=((x.ins.length+1:Nat):Int)∧IntKind.i64.wrap ((f.pin%(x.ins.length+1):Nat):Int)=((f.pin%(x.ins.length+1):Nat):Int)∧IntKind.i64.wrap (((f.pin%(x.ins.length+1):Nat):Int)-1)=((f.pin%(x.ins.length+1):Nat):Int)-1∧¬((x.ins.length+1:Nat):Int)=0:=by intro x hx;have:=h.insl hx;have hq:=f4n f.pin (show 0<x.ins.length+1 by omega);generalize f.pin%(x.ins.length+1)=q at hq⊢;exact⟨wI1 (by omega),wI (by omega),w64 (by omega) (by omega),by omega⟩
 generalize hN1:f.node%c.nodes.length=nd at aU w3;generalize dB:f.other%c.nodes.length=ot at ep w5;obtain⟨x,hx⟩:∃x,c.nodes[nd]?=some x:=⟨_,z9e aU⟩
 obtain⟨p1,p2,p3,p4⟩:=dE x (c11 hx);cases ho:f.one
 ·simp only[Cir.enc,FX.enc,ho]
  (refine svE Tryz.f20 ?_;simp only[Tryz.f20,gS])
  (repeat first|simp only[ww]|(apply xa;simp+decide only[go_sem,c0,w1,w2,w3,w6,hN1,bR,hx,aU,p1,p2,p3,p4];rfl;kernel_rfl))
  refine a21 (vs:=[.agg (Flt.enc ⟨1,nd,((f.pin%(x.ins.length+1):Nat):Int)-1,0,0⟩)]) (r:=(.agg (Flt.enc ⟨1,nd,((f.pin%(x.ins.length+1):Nat):Int)-1,0,0⟩),[])) (by simp+decide only[go_sem,bR,hx,hN1,p1,p2,p3,p4]<;>rfl) ?_ ⟨_,_,_,a67 hx (p:=f.pin) (v:=0) (by omega),rfl⟩;simp+decide only[go_sem]
 ·simp only[Cir.enc,FX.enc,ho]
  (refine svE Tryz.f20 ?_;simp only[Tryz.f20,gS])
  (repeat first|simp only[ww]|(apply xa;simp+decide only[go_sem,c0,w1,w2,w3,w6,hN1,bR,hx,aU,p1,p2,p3,p4];rfl;kernel_rfl))
  refine a21 (vs:=[.agg (Flt.enc ⟨1,nd,((f.pin%(x.ins.length+1):Nat):Int)-1,1,0⟩)]) (r:=(.agg (Flt.enc ⟨1,nd,((f.pin%(x.ins.length+1):Nat):Int)-1,1,0⟩),[])) (by simp+decide only[go_sem,bR,hx,hN1,p1,p2,p3,p4]<;>rfl) ?_ ⟨_,_,_,a67 hx (p:=f.pin) (v:=1) (by omega),rfl⟩;simp+decide only[go_sem]
theorem d05(c:Cir)(h:c.wf)(f:FX)(hf:f.ok)(hm:f.model%4=1):∃nd pin val,FltOk c.nodes ⟨0,nd,pin,val,0⟩∧∀(d:Bool) (H:a03),a0a L.env d (sem L.env Mf) (.func (.func 20) [] []) [.agg f.enc,.agg c.enc] H=some (.agg (Flt.enc ⟨1,nd,pin,val,0⟩),H,[]):=by obtain⟨r,⟨nd,pin,val,h1,rfl⟩,h2⟩:=d92 c h f hf hm;exact⟨nd,pin,val,h1,λd H=>a04 (by kernel_rfl) (by kernel_rfl) rfl (by simp only[a06,a0n,Cir.enc,FX.enc,go_sem]) h2 rfl⟩
end Go.UInst
