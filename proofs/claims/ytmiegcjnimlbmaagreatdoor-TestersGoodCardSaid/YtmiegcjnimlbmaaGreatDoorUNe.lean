/- Part of a proof. No condition. -/
import Derived.Test.YtmiegcjnimlbmaaGreatDoorUGa
import Derived.Test.YtmiegcjnimlbmaaGreatDoorPcB
import Derived.Test.YtmiegcjnimlbmaaGreatDoorAxD
set_option linter.unusedSimpArgs false
set_option linter.unusedVariables false
namespace Go.UInst
open Go.Proofs Go.Ax Go.Pc
set_option maxRecDepth 100000
theorem d2a(k:Nat)(hk:k<16):sem L.env Mf 106 [.int .u8 k] []=some (.tuple [.int .i64 (a1s k:Nat),.int .i64 (a21 k:Nat)],[]):=by
 have w:=wI (n:=k) (by omega);have c:¬(16:Int)≤k:=by omega
 have h:k=0∨k=1∨k=2∨k=3∨k=4∨k=5∨k=6∨k=7∨k=8∨k=9∨k=10∨k=11∨k=12∨k=13∨k=14∨k=15:=by omega
 rcases h with rfl|rfl|rfl|rfl|rfl|rfl|rfl|rfl|rfl|rfl|rfl|rfl|rfl|rfl|rfl|rfl
 all_goals
  (refine sv Tryz.f106 ?_;simp only[Tryz.f106,gS])
  (repeat first|simp only[ww]|(apply xa;simp+decide only[go_sem,w,c];rfl;kernel_rfl))
  (apply fqb;simp+decide only[go_sem]<;>rfl)
theorem b53{d:Bool}(H:a02)(k:Nat)(hk:k<16):a09 L.env d (sem L.env Mf) (.func (.func 106) [] []) [.int .u8 k] H=some (.tuple [.int .i64 (a1s k:Nat),.int .i64 (a21 k:Nat)],H,[]):=a04 (by kernel_rfl) (by kernel_rfl) rfl rfl (d2a k hk) rfl
theorem d76(k:Nat)(hk:k<256):sem L.env Mf 61 [.int .u8 k] []=some (.bool (a1g k),[]):=by
 by_cases h1:1≤k
 ·have c1:(1:Int)≤k:=by omega
  by_cases h2:k≤13
  ·have c2:(k:Int)≤13:=by omega
   rw[show a1g k=true by simp[a1g,h1,h2]]
   (refine sv Tryz.f61 ?_;simp only[Tryz.f61,gS])
   (repeat first|simp only[ww]|(apply xa;simp+decide only[go_sem,c1,c2];rfl;kernel_rfl))
   (apply fqb;simp+decide only[go_sem]<;>rfl)
  ·have c2:¬(k:Int)≤13:=by omega
   rw[show a1g k=false by simp[a1g,h2]]
   (refine sv Tryz.f61 ?_;simp only[Tryz.f61,gS])
   (repeat first|simp only[ww]|(apply xa;simp+decide only[go_sem,c1,c2];rfl;kernel_rfl))
   (apply fqb;simp+decide only[go_sem]<;>rfl)
 ·have c1:¬(1:Int)≤k:=by omega
  rw[show a1g k=false by simp[a1g,h1]]
  (refine sv Tryz.f61 ?_;simp only[Tryz.f61,gS])
  (repeat first|simp only[ww]|(apply xa;simp+decide only[go_sem,c1];rfl;kernel_rfl))
  (apply fqb;simp+decide only[go_sem]<;>rfl)
theorem d6k(k v:Nat):sem L.env Mf 136 [.slice 0 0 1 (some 1),.int .u8 v] [some (.row 1 [[.int .u8 k]])]=some (.int .i64 (if v=k then 0 else -1),[some (.row 1 [[.int .u8 k]])]):=by
 (refine sv Tryz.f136 ?_;simp only[Tryz.f136,gS])
 (repeat first|simp only[ww]|(apply xa;simp+decide only[go_sem];rfl;kernel_rfl))
 refine a0m (σ:=Nat) kp136_0 (λi=>[(0,.slice 0 0 1 (some 1)),(1,.int .u8 v),(7,.int .i64 1),(8,.int .i64 i)])
  (λ_=>[some (.row 1 [[.int .u8 k]])]) (λi=>1-i) (λi=>i≤1∧(i=1→v≠k)) 0 ?_ (by simp) ?_
 ·(simp+decide only[go_sem,a03,a00]<;>rfl)
 ·rintro i ⟨hi,az⟩
  have hh:i=0∨i=1:=by omega
  rcases hh with rfl|rfl
  ·by_cases h:v=k
   ·subst h
    (repeat first|simp only[ww]|(apply xa;simp+decide only[go_sem,e6q];rfl;kernel_rfl))
    (apply fqb;simp+decide only[go_sem,e6q]<;>rfl)
   ·have c:¬(v:Int)=k:=by omega
    (repeat first|simp only[ww]|(apply xa;simp+decide only[go_sem,c];rfl;kernel_rfl))
    refine a28 1 ?_ (by omega) (by simp[h])
    (simp+decide only[go_sem,a03,a00]<;>rfl)
  ·have h:=az rfl;have c:¬(v:Int)=k:=by omega
   rw[e5s h]
   (repeat first|simp only[ww]|(apply xa;simp+decide only[go_sem,c];rfl;kernel_rfl))
   (apply fqb;simp+decide only[go_sem]<;>rfl)
theorem d2l(k v:Nat):sem L.env Mf 85 [.slice 0 0 1 (some 1),.int .u8 v] [some (.row 1 [[.int .u8 k]])]=some (.bool (decide (v=k)),[some (.row 1 [[.int .u8 k]])]):=by
 have hc:a09 L.env false (sem L.env Mf) (.func (.func 136) [] []) [.slice 0 0 1 (some 1),.int .u8 v] [some (.row 1 [[.int .u8 k]])]=some (.int .i64 (if v=k then 0 else -1),[some (.row 1 [[.int .u8 k]])],[0]):=a2h (by kernel_rfl) (by kernel_rfl) rfl rfl rfl (FlatO.row (FlatR.cons rfl FlatR.nil)) rfl rfl (d6k k v) rfl;by_cases h:v=k
 ·rw[e6q h]at hc
  (refine sv Tryz.f85 ?_;simp only[Tryz.f85,gS])
  (repeat first|simp only[ww]|(apply xa;simp+decide only[go_sem,hc];rfl;kernel_rfl))
  (apply fqb;simp+decide only[go_sem,h]<;>rfl)
 ·rw[e5s h]at hc
  (refine sv Tryz.f85 ?_;simp only[Tryz.f85,gS])
  (repeat first|simp only[ww]|(apply xa;simp+decide only[go_sem,hc];rfl;kernel_rfl))
  (apply fqb;simp+decide only[go_sem,h]<;>rfl)
theorem c4f{d:Bool}(k v:Nat)(X:a02):a09 L.env d (sem L.env Mf) (.func (.func 85) [] []) [.slice 0 0 1 (some 1),.int .u8 v] (some (.row 1 [[.int .u8 k]])::X)=some (.bool (decide (v=k)),some (.row 1 [[.int .u8 k]])::X,[0]):=a2h (by kernel_rfl) (by kernel_rfl) rfl rfl rfl (FlatO.row (FlatR.cons rfl FlatR.nil)) rfl rfl (d2l k v) rfl
def a2z(nodes:List Nd)(k i:Nat):List Nat:=(List.range i).filter λj=>decide (a0y nodes j=k)
theorem b2j(nodes:List Nd)(k i:Nat):a2z nodes k (i+1)=if a0y nodes i=k then a2z nodes k i++[i]else a2z nodes k i:=by unfold a2z;rw[f01,List.filter_append];by_cases h:a0y nodes i=k<;>simp[h]
theorem b2k(nodes:List Nd)(k i:Nat):(a2z nodes k i).length≤i:=Nat.le_trans (List.length_filter_le _ _) (by simp)
def kinds(nodes:List Nd)(k:Nat):List Nat:=a2z nodes k nodes.length
def c7s(l:List Nat):AV:=sl (match l with|[]=>none|a::r=>some (some (r.length+1))) (l.map a0s)
theorem c1v:c7s [] = .nilslice:=by rfl
theorem c7r(a:Nat)(r:List Nat):c7s (a::r) = .islice ((a::r).map a0s) (some (r.length+1)):=by rfl
theorem a1v{nodes:List Nd}{i:Nat}{x:Nd}(h:nodes[i]?=some x):a0y nodes i=x.kind:=by simp[a0y,h]
theorem a29(l:List Nat):(l.map a0s).flatMap a0a=[]:=a0c (FlatR.map λ_=>rfl)
theorem a3q(π:Nat→Option Nat)(l:List Nat):(l.map a0s).map (λr=>r.map (ren π))=l.map a0s:=a08 π (FlatR.map λ_=>rfl)
theorem d28(l:List Nat):FlatR (l.map a0s):=FlatR.map λ_=>rfl
theorem d6s{m:Nat}{d:AV→Option AV}(l:List Nat):a8i m d (l.map a0s)=some (l.map a0s):=a13 m d (FlatR.map λ_=>rfl)
theorem d2p:sem L.env Mf 86 [.nilslice] []=some (.nilslice,[]):=by
 (refine sv Tryz.f86 ?_;simp only[Tryz.f86,gS])
 (repeat first|simp only[ww]|(apply xa;simp+decide only[go_sem];rfl;kernel_rfl))
 (apply fqb;simp+decide only[go_sem]<;>rfl)
theorem d77(n:Nat)(aa:List (List AV))(hf:FlatR aa):sem L.env Mf 86 [.slice 0 0 n none] [some (.row 1 aa)]=some (.slice 0 0 n (some n),[some (.row 1 aa)]):=by
 have h1:=λπ=>a08 π hf
 (refine sv Tryz.f86 ?_;simp only[Tryz.f86,gS])
 (repeat first|simp only[ww]|(apply xa;simp+decide only[go_sem];rfl;kernel_rfl))
 (apply fqb;simp+decide only[go_sem,h1]<;>rfl)
theorem c8n{d:Bool}{H:a02}{b n:Nat}{aa:List (List AV)}(hf:FlatR aa)(hb:a01 H b=some (.row 1 aa)):a09 L.env d (sem L.env Mf) (.func (.func 86) [] []) [.slice b 0 n none] H=some (.slice b 0 n (some n),H,[b]):=by have h:=a43 (E:=L.env) (ah:=d) (call:=sem L.env Mf) (g:=86) (fs:=[]) (cs:=[]) (ar:=[.slice b 0 n none]) (H:=H) (b:=b) (by kernel_rfl) (by kernel_rfl) rfl hb (a0j hf) (FlatO.row hf) rfl (aq:=[AV.slice 0 0 n none]) (by simp only[e5m,e4t,e4r,e5j,a1u]) (d77 n aa hf) (FlatO.row hf) (a5e b 0 _ n _);rw[a8s hb]at h;exact h
theorem e0d(c:Cir)(k:Nat)(hl:c.nodes.length<1000000):sem L.env Mf 35 [.agg c.enc,.slice 0 0 1 (some 1)] [some (.row 1 [[.int .u8 k]])]=some (c7s (kinds c.nodes k),[some (.row 1 [[.int .u8 k]])]):=by
 have bX:=λv X=>c4f (d:=false) k v X
 (refine sv Tryz.f35 ?_;simp only[Tryz.f35,gS])
 (repeat first|simp only[ww]|(apply xa;simp+decide only[go_sem,Cir.enc];rfl;kernel_rfl))
 refine a0m (σ:=Nat) kp35_0 (λi=>[(1,.slice 0 0 1 (some 1)),(5,grV 1 ((a2z c.nodes k i).map a0s)),(9,sl c.nc (c.nodes.map Nd.enc)),(10,.int .i64 c.nodes.length),(11,.int .i64 i)])
  (λi=>some (.row 1 [[.int .u8 k]])::grH 1 ((a2z c.nodes k i).map a0s)) (λi=>c.nodes.length-i) (λi=>i≤c.nodes.length) 0 ?_ (e5q _) ?_
 ·have e:a2z c.nodes k 0=[]:=rfl
  (simp+decide only[go_sem,a03,a00,e,e5j,a17,a18]<;>rfl)
 ·intro i hi;by_cases ak:i<c.nodes.length
  ·obtain⟨x,hx⟩:∃x,c.nodes[i]?=some x:=⟨_,z9e ak⟩
   have c1:(i:Int)<c.nodes.length:=by omega
   have hw:=wI1 (n:=i) (by omega);have hs:=b2j c.nodes k i;rw[a1v hx]at hs;have bf:=b2k c.nodes k i;have aN:(a2z c.nodes k i).length+1≤1000000000:=by omega
   by_cases hk:x.kind=k
   ·rw[e6q hk]at hs;generalize a2z c.nodes k i=l at hs bf aN;cases l with
    |nil=>
     (repeat first|simp only[ww]|(apply xa;simp+decide only[go_sem,c1,ak,hx,hw,bX,hk,e5j,a17,a18];rfl;kernel_rfl))
     refine a28 (i+1) ?_ (by omega) (by omega);rw[hs]
     (simp+decide only[go_sem,a03,a00,e5j,e5m,e4r,a0k,a0l,e5r]<;>rfl)
    |cons a r=>
     simp only[e5l]at aN
     (repeat first|simp only[ww]|(apply xa;simp+decide only[go_sem,c1,ak,hx,hw,bX,hk,e4r,a0k,a0l,aN,e5l];rfl;kernel_rfl))
     refine a28 (i+1) ?_ (by omega) (by omega);rw[hs]
     (simp+decide only[go_sem,a03,a00,e7p,e4r,a0k,a0l,a29,a3q,e5l]<;>rfl)
   ·rw[e5s hk]at hs;have gw:¬(x.kind:Int)=k:=by omega
    generalize a2z c.nodes k i=l at hs bf aN;cases l with
    |nil=>
     (repeat first|simp only[ww]|(apply xa;simp+decide only[go_sem,c1,ak,hx,hw,bX,hk,e5j,a17,a18];rfl;kernel_rfl))
     refine a28 (i+1) ?_ (by omega) (by omega);rw[hs]
     (simp+decide only[go_sem,a03,a00,e5j,a17,a18]<;>rfl)
    |cons a r=>
     (repeat first|simp only[ww]|(apply xa;simp+decide only[go_sem,c1,ak,hx,hw,bX,hk,e4r,a0k,a0l];rfl;kernel_rfl))
     refine a28 (i+1) ?_ (by omega) (by omega);rw[hs]
     (simp+decide only[go_sem,a03,a00,e4r,a0k,a0l,a29,a3q]<;>rfl)
  ·obtain rfl:i=c.nodes.length:=by omega
   have c1:¬(c.nodes.length:Int)<c.nodes.length:=by omega
   unfold kinds;generalize a2z c.nodes k c.nodes.length=l;cases l with
   |nil=>
    have b8:=λH=>a04 (E:=L.env) (ah:=false) (call:=sem L.env Mf) (g:=86) (fs:=[]) (cs:=[]) (ar:=[.nilslice]) (H:=H) (by kernel_rfl) (by kernel_rfl) rfl rfl d2p rfl
    (repeat first|simp only[ww]|(apply xa;simp+decide only[go_sem,c1,e5j,a17,a18,b8];rfl;kernel_rfl))
    (apply fqb;simp+decide only[go_sem,c1v]<;>rfl)
   |cons a r=>
    have b8:=c8n (d:=false) (H:=[some (.row 1 [[.int .u8 k]]),some (.row 1 ((a::r).map a0s))]) (b:=1) (n:=r.length+1) (d28 _) rfl;simp only[e4r,go_sem]at b8
    (repeat first|simp only[ww]|(apply xa;simp+decide only[go_sem,c1,e4r,a0k,a0l,c10,b8];rfl;kernel_rfl))
    (apply fqb;simp+decide only[go_sem,c7r,e4r,d6s,e5l]<;>rfl)
theorem d5m(π:Nat→Option Nat)(c:Cir):ren π (.agg c.enc) = .agg c.enc:=a1d π _ (by simp only[a0z,Cir.enc,go_sem])
theorem b1v(l:List Nat):refs (c7s l)=[]:=a12 _ _
theorem b14{d:Bool}{H:a02}{b:Nat}(c:Cir){k:Nat}{n:Int}(hn:n=k)(hl:c.nodes.length<1000000)(hb:a01 H b=some (.row 1 [[.int .u8 n]])) :
 a09 L.env d (sem L.env Mf) (.func (.func 35) [] []) [.agg c.enc,.slice b 0 1 (some 1)] H=some (c7s (kinds c.nodes k),H,[b]):=by
 subst hn;exact a2h (E:=L.env) (ah:=d) (call:=sem L.env Mf) (g:=35) (fs:=[]) (cs:=[]) (ar:=[.agg c.enc,.slice b 0 1 (some 1)]) (H:=H) (b:=b) (by kernel_rfl) (by kernel_rfl) rfl hb rfl (FlatO.row (FlatR.cons rfl FlatR.nil)) (by simp only[e5m,e4t,a06,a0z,Cir.enc,go_sem]) (aq:=[.agg c.enc,.slice 0 0 1 (some 1)]) (by simp only[e5m,e4t,e4r,e5j,a1u,d5m]) (e0d c k hl) (b1v _)
theorem a4k(l:List Nat):∃r,c7s l=sl r (l.map a0s):=⟨_,rfl⟩
theorem c7m(c:Cir)(hl:c.nodes.length<1000000):sem L.env Mf 13 [.agg c.enc] []=some (c7s (kinds c.nodes 0),[]):=by
 have hc:=λX=>b14 (d:=false) (H:=[X,some (.row 1 [[.int .u8 0]])]) (b:=1) c (k:=0) rfl hl rfl;obtain⟨r,hr⟩:=a4k (kinds c.nodes 0);rw[hr]at hc⊢;simp only[Cir.enc]at hc⊢
 (refine sv Tryz.f13 ?_;simp only[Tryz.f13,gS])
 (repeat first|simp only[ww]|(apply xa;simp+decide only[go_sem,hc];rfl;kernel_rfl))
 (apply fqb;simp+decide only[go_sem]<;>rfl)
theorem c5r(c:Cir)(hl:c.nodes.length<1000000):sem L.env Mf 57 [.agg c.enc] []=some (c7s (kinds c.nodes 14),[]):=by
 have hc:=λX=>b14 (d:=false) (H:=[X,some (.row 1 [[.int .u8 14]])]) (b:=1) c (k:=14) rfl hl rfl;obtain⟨r,hr⟩:=a4k (kinds c.nodes 14);rw[hr]at hc⊢;simp only[Cir.enc]at hc⊢
 (refine sv Tryz.f57 ?_;simp only[Tryz.f57,gS])
 (repeat first|simp only[ww]|(apply xa;simp+decide only[go_sem,hc];rfl;kernel_rfl))
 (apply fqb;simp+decide only[go_sem]<;>rfl)
theorem a40{d:Bool}(H:a02)(c:Cir)(hl:c.nodes.length<1000000):a09 L.env d (sem L.env Mf) (.func (.func 13) [] []) [.agg c.enc] H=some (c7s (kinds c.nodes 0),H,[]):=a04 (by kernel_rfl) (by kernel_rfl) rfl (by simp only[a06,a0z,Cir.enc,go_sem]) (c7m c hl) (b1v _)
theorem a66{d:Bool}(H:a02)(c:Cir)(hl:c.nodes.length<1000000):a09 L.env d (sem L.env Mf) (.func (.func 57) [] []) [.agg c.enc] H=some (c7s (kinds c.nodes 14),H,[]):=a04 (by kernel_rfl) (by kernel_rfl) rfl (by simp only[a06,a0z,Cir.enc,go_sem]) (c5r c hl) (b1v _)
def c3k(c:Cir):AV:=.func (.func 211) [] [.iptr c.enc]
theorem c66(c:Cir):refs (c3k c)=[]:=by rfl
theorem c3i(c:Cir):sem L.env Mf 175 [.agg c.enc] []=some (c3k c,[]):=by
 unfold c3k;simp only[Cir.enc]
 (refine sv Tryz.f175 ?_;simp only[Tryz.f175,gS])
 (repeat first|simp only[ww]|(apply xa;simp+decide only[go_sem];rfl;kernel_rfl))
 (apply fqb;simp+decide only[go_sem]<;>rfl)
theorem a75{d:Bool}(H:a02)(c:Cir):a09 L.env d (sem L.env Mf) (.func (.func 175) [] []) [.agg c.enc] H=some (c3k c,H,[]):=a04 (by kernel_rfl) (by kernel_rfl) rfl (by simp only[a06,a0z,Cir.enc,go_sem]) (c3i c) rfl
theorem d5w(c:Cir)(m:Nat)(hm:m<c.nodes.length):sem L.env Mf 211 [.int .i64 m,.iptr c.enc] []=some (.bool false,[]):=by
 have c1:¬(m:Int)<0:=by omega
 have c2:¬(c.nodes.length:Int)≤m:=by omega
 simp only[Cir.enc]
 (refine sv Tryz.f211 ?_;simp only[Tryz.f211,gS])
 (repeat first|simp only[ww]|(apply xa;simp+decide only[go_sem,c1,c2];rfl;kernel_rfl))
 (apply fqb;simp+decide only[go_sem]<;>rfl)
theorem b7x{d:Bool}(H:a02)(c:Cir)(m:Nat)(hm:m<c.nodes.length):a09 L.env d (sem L.env Mf) (c3k c) [.int .i64 m] H=some (.bool false,H,[]):=a04 (by kernel_rfl) (by kernel_rfl) rfl (by simp only[a06,Cir.enc,go_sem]) (d5w c m hm) rfl
theorem c7q(r:Rep)(l:List Nat)(f:AV)(hf:refs f=[])(hl:l.length<1000000)(hc:∀m∈l,a09 L.env false (sem L.env Mf) f [.int .i64 m] []=some (.bool false,[],[])) :
 sem L.env Mf 210 [sl r (l.map a0s),f] []=some (.int .i64 (-1),[]):=by
 have hr:∀π,ren π f=f:=λπ=>a1d π f hf
 (refine sv Tryz.f210 ?_;simp only[Tryz.f210,gS])
 (repeat first|simp only[ww]|(apply xa;simp+decide only[go_sem];rfl;kernel_rfl))
 refine a0m (σ:=Nat) kp210_0 (λi=>[(0,sl r (l.map a0s)),(1,f),(7,.int .i64 l.length),(8,.int .i64 i)])
  (λ_=>[]) (λi=>l.length-i) (λi=>i≤l.length) 0 ?_ (e5q _) ?_
 ·(simp+decide only[go_sem,a03,a00,hf,hr]<;>rfl)
 ·intro i hi;by_cases ak:i<l.length
  ·obtain⟨x,hx⟩:∃x,l[i]?=some x:=⟨_,z9e ak⟩
   have c1:(i:Int)<l.length:=by omega
   have hw:=wI1 (n:=i) (by omega);have fm:=hc x (e12 hx)
   (repeat first|simp only[ww]|(apply xa;simp+decide only[go_sem,c1,ak,hx,hw,fm];rfl;kernel_rfl))
   refine a28 (i+1) ?_ (by omega) (by omega)
   (simp+decide only[go_sem,a03,a00,hf,hr]<;>rfl)
  ·obtain rfl:i=l.length:=by omega
   have c1:¬(l.length:Int)<l.length:=by omega
   (repeat first|simp only[ww]|(apply xa;simp+decide only[go_sem,c1];rfl;kernel_rfl))
   (apply fqb;simp+decide only[go_sem]<;>rfl)
theorem c4g(r:Rep)(l:List Nat)(f:AV)(hf:refs f=[])(hl:l.length<1000000)(hc:∀m∈l,a09 L.env false (sem L.env Mf) f [.int .i64 m] []=some (.bool false,[],[])) :
 sem L.env Mf 174 [sl r (l.map a0s),f] []=some (.bool false,[]):=by
 have h:=λH=>a04 (E:=L.env) (ah:=false) (call:=sem L.env Mf) (g:=210) (fs:=[]) (cs:=[]) (ar:=[sl r (l.map a0s),f]) (H:=H) (by kernel_rfl) (by kernel_rfl) rfl (by simp only[e5m,e4t,a06,hf,go_sem]) (c7q r l f hf hl hc) rfl;have c1:¬(0:Int)≤ -1:=by omega
 (refine sv Tryz.f174 ?_;simp only[Tryz.f174,gS])
 (repeat first|simp only[ww]|(apply xa;simp+decide only[go_sem,h,c1];rfl;kernel_rfl))
 (apply fqb;simp+decide only[go_sem]<;>rfl)
theorem b8j{d:Bool}(H:a02)(c:Cir)(r:Rep)(l:List Nat)(hl:l.length<1000000)(h:∀m∈l,m<c.nodes.length) :
 a09 L.env d (sem L.env Mf) (.func (.func 174) [] []) [sl r (l.map a0s),c3k c] H=some (.bool false,H,[]):=
 a04 (by kernel_rfl) (by kernel_rfl) rfl (by simp only[e5m,e4t,a06,c66,go_sem]) (c4g r l (c3k c) rfl hl (λm hm=>b7x [] c m (h m hm))) rfl
/- the drivers of a bus -/
theorem d0u(c:Cir)(m:Nat)(hm:m<c.nodes.length)(hk:a0y c.nodes m=12):sem L.env Mf 206 [.int .i64 m,.ptr 0 0 0] [some (.row 4 [c.enc])]=some (.bool false,[some (.row 4 [c.enc])]):=by
 obtain⟨x,hx⟩:∃x,c.nodes[m]?=some x:=⟨_,z9e hm⟩
 rw[a1v hx]at hk;simp only[Cir.enc]
 (refine sv Tryz.f206 ?_;simp only[Tryz.f206,gS])
 (repeat first|simp only[ww]|(apply xa;simp+decide only[go_sem,hx,hk,hm];rfl;kernel_rfl))
 (apply fqb;simp+decide only[go_sem]<;>rfl)
theorem a5z(c:Cir):FlatR [c.enc]:=FlatR.cons (by simp only[Cir.enc,go_sem]) FlatR.nil
theorem c3l{d:Bool}(H:a02)(c:Cir)(b m:Nat)(hb:a01 H b=some (.row 4 [c.enc]))(hm:m<c.nodes.length)(hk:a0y c.nodes m=12):a09 L.env d (sem L.env Mf) (.func (.func 206) [] [.ptr b 0 0]) [.int .i64 m] H=some (.bool false,H,[b]):=a2h (fs:=[]) (cs:=[.ptr b 0 0]) (ar:=[.int .i64 m]) (by kernel_rfl) (by kernel_rfl) rfl hb (a0j (a5z c)) (FlatO.row (a5z c)) rfl (aq:=[.int .i64 m,.ptr 0 0 0]) (by simp[ren,a8e]) (d0u c m hm hk) rfl
theorem c3z(r:Rep)(l:List Nat)(c:Cir)(hl:l.length<1000000)(hc:∀m∈l,m<c.nodes.length∧a0y c.nodes m=12) :
 sem L.env Mf 210 [sl r (l.map a0s),.func (.func 206) [] [.ptr 0 0 0]] [some (.row 4 [c.enc])]=some (.int .i64 (-1),[some (.row 4 [c.enc])]):=by
 have cu:a0a c.enc=[]:=by simp only[Cir.enc,go_sem]
 have jB:∀π,c.enc.map (ren π)=c.enc:=λπ=>a34 π cu;have ag:=λm h1 h2=>c3l (d:=false) [some (.row 4 [c.enc])] c 0 m rfl h1 h2;generalize he:c.enc=E at cu jB ag
 (refine sv Tryz.f210 ?_;simp only[Tryz.f210,gS])
 (repeat first|simp only[ww]|(apply xa;simp+decide only[go_sem];rfl;kernel_rfl))
 refine a0m (σ:=Nat) kp210_0 (λi=>[(0,sl r (l.map a0s)),(1,.func (.func 206) [] [.ptr 0 0 0]),(7,.int .i64 l.length),(8,.int .i64 i)])
  (λ_=>[some (.row 4 [E])]) (λi=>l.length-i) (λi=>i≤l.length) 0 ?_ (e5q _) ?_
 ·(simp+decide only[go_sem,a03,a00,cu,jB]<;>rfl)
 ·intro i hi;by_cases ak:i<l.length
  ·obtain⟨x,hx⟩:∃x,l[i]?=some x:=⟨_,z9e ak⟩
   have c1:(i:Int)<l.length:=by omega
   have hw:=wI1 (n:=i) (by omega);have fm:=ag x (hc x (e12 hx)).1 (hc x (e12 hx)).2
   (repeat first|simp only[ww]|(apply xa;simp+decide only[go_sem,c1,ak,hx,hw,fm];rfl;kernel_rfl))
   refine a28 (i+1) ?_ (by omega) (by omega)
   (simp+decide only[go_sem,a03,a00,cu,jB]<;>rfl)
  ·obtain rfl:i=l.length:=by omega
   have c1:¬(l.length:Int)<l.length:=by omega
   (repeat first|simp only[ww]|(apply xa;simp+decide only[go_sem,c1];rfl;kernel_rfl))
   (apply fqb;simp+decide only[go_sem,jB]<;>rfl)
theorem b8k(r:Rep)(l:List Nat)(c:Cir)(hl:l.length<1000000)(hc:∀m∈l,m<c.nodes.length∧a0y c.nodes m=12) :
 sem L.env Mf 174 [sl r (l.map a0s),.func (.func 206) [] [.ptr 0 0 0]] [some (.row 4 [c.enc])]=some (.bool false,[some (.row 4 [c.enc])]):=by
 have h:=a2h (E:=L.env) (ah:=false) (call:=sem L.env Mf) (g:=210) (fs:=[]) (cs:=[]) (ar:=[sl r (l.map a0s),.func (.func 206) [] [.ptr 0 0 0]]) (H:=[some (.row 4 [c.enc])]) (b:=0) (by kernel_rfl) (by kernel_rfl) rfl rfl (a0j (a5z c)) (FlatO.row (a5z c)) (by simp only[e5m,e4t,a06,go_sem]) (by simp only[e5m,e4t,e4r,e5j,b7r];simp[ren,b92,a8e]) (c3z r l c hl hc) rfl;have c1:¬(0:Int)≤ -1:=by omega
 have cu:a0a c.enc=[]:=by simp only[Cir.enc,go_sem]
 have jB:∀π,c.enc.map (ren π)=c.enc:=λπ=>a34 π cu;generalize he:c.enc=E at cu jB h
 (refine sv Tryz.f174 ?_;simp only[Tryz.f174,gS])
 (repeat first|simp only[ww]|(apply xa;simp+decide only[go_sem,h,c1];rfl;kernel_rfl))
 (apply fqb;simp+decide only[go_sem,jB]<;>rfl)
theorem c0m{d:Bool}{H:a02}{b:Nat}(c:Cir)(r:Rep)(l:List Nat)(hl:l.length<1000000)(hc:∀m∈l,m<c.nodes.length∧a0y c.nodes m=12)(hb:a01 H b=some (.row 4 [c.enc])) :
 a09 L.env d (sem L.env Mf) (.func (.func 174) [] []) [sl r (l.map a0s),.func (.func 206) [] [.ptr b 0 0]] H=some (.bool false,H,[b]):=
 a2h (fs:=[]) (cs:=[]) (ar:=[sl r (l.map a0s),.func (.func 206) [] [.ptr b 0 0]]) (by kernel_rfl) (by kernel_rfl) rfl hb (a0j (a5z c)) (FlatO.row (a5z c)) (by simp only[e5m,e4t,a06,go_sem]) (by simp only[e5m,e4t,e4r,e5j,b7r];simp[ren,b92,a8e]) (b8k r l c hl hc) rfl
theorem e1k(c:Cir)(x:Nd)(hm:x.mem=0∧x.bit=0)(hk:x.kind≤14):sem L.env Mf 207 [.agg c.enc,.agg x.enc] []=some (.bool true,[]):=by
 have c1:¬(x.kind:Int)=15:=by omega
 obtain⟨m1,m2⟩:=hm;simp only[Cir.enc,Nd.enc,m1,m2]
 (refine sv Tryz.f207 ?_;simp only[Tryz.f207,gS])
 (repeat first|simp only[ww]|(apply xa;simp+decide only[go_sem,c1];rfl;kernel_rfl))
 (apply fqb;simp+decide only[go_sem]<;>rfl)
theorem d30{d:Bool}(H:a02)(c:Cir)(x:Nd)(hm:x.mem=0∧x.bit=0)(hk:x.kind≤14):a09 L.env d (sem L.env Mf) (.func (.func 207) [] []) [.agg c.enc,.agg x.enc] H=some (.bool true,H,[]):=a04 (by kernel_rfl) (by kernel_rfl) rfl (by simp only[a06,a0z,Cir.enc,go_sem]) (e1k c x hm hk) rfl
theorem d62(c:Cir)(h:c.wf)(x:Nd)(hx:x∈c.nodes):sem L.env Mf 171 [.agg c.enc,.agg x.enc] []=some (.int .i64 0,[]):=by
 have k14:=h.kind x hx;have bM:=h.lo x hx;have kq:=h.hi x hx;have aj:x.ins.length<1000000:=by
  have:a21 x.kind≤16:=by
   have hk:x.kind=0∨x.kind=1∨x.kind=2∨x.kind=3∨x.kind=4∨x.kind=5∨x.kind=6∨x.kind=7∨x.kind=8∨x.kind=9∨x.kind=10∨x.kind=11∨x.kind=12∨x.kind=13∨x.kind=14:=by omega
   rcases hk with e|e|e|e|e|e|e|e|e|e|e|e|e|e|e<;>rw[e]<;>decide
  omega
 have hf:=λH=>b53 (d:=false) H x.kind (by omega);have ho:=λH=>a75 (d:=true) H c;have hc:=λH=>b8j (d:=true) H c x.c x.ins aj (h.ins x hx);have hb:=λH=>d30 (d:=false) H c x (h.mem x hx) k14;have c1:¬(15:Int)<x.kind:=by omega
 have c2:¬(x.ins.length:Int)<a1s x.kind:=by omega
 have c3:¬(a21 x.kind:Int)<x.ins.length:=by omega
 have cu:a0a c.enc=[]:=by simp only[Cir.enc,go_sem]
 by_cases hk:x.kind=13
 ·have bv:=λ(X:Option AObj)=>c0m (d:=false) (H:=[some (.row 4 [c.enc]),X]) (b:=0) c x.c x.ins aj (λm hm=>⟨h.ins x hx m hm,h.bus x hx hk m hm⟩) rfl;have ck:decide ((x.kind:Int)=13)=true:=e7o (by omega);simp only[Cir.enc,Nd.enc]at ho hc hb bv⊢
  (refine sv Tryz.f171 ?_;simp only[Tryz.f171,gS])
  (repeat first|simp only[ww]|(apply xa;simp+decide only[go_sem,hf,c1,c2,c3,ho,hc,hb,bv,ck];rfl;kernel_rfl))
  (apply fqb;simp+decide only[go_sem]<;>rfl)
 ·have ck:¬(x.kind:Int)=13:=by omega
  simp only[Cir.enc,Nd.enc]at ho hc hb⊢
  (refine sv Tryz.f171 ?_;simp only[Tryz.f171,gS])
  (repeat first|simp only[ww]|(apply xa;simp+decide only[go_sem,hf,c1,c2,c3,ho,hc,hb,ck];rfl;kernel_rfl))
  (apply fqb;simp+decide only[go_sem]<;>rfl)
theorem c6i{d:Bool}(H:a02)(c:Cir)(h:c.wf)(x:Nd)(hx:x∈c.nodes):a09 L.env d (sem L.env Mf) (.func (.func 171) [] []) [.agg c.enc,.agg x.enc] H=some (.int .i64 0,H,[]):=a04 (by kernel_rfl) (by kernel_rfl) rfl (by simp only[a06,a0z,Cir.enc,go_sem]) (d62 c h x hx) rfl
theorem c7g(i:Nat)(hi:i<14):sem L.env Mf 208 [.str (a24 i)] []=some (.bool true,[]):=by
 have h:i=0∨i=1∨i=2∨i=3∨i=4∨i=5∨i=6∨i=7∨i=8∨i=9∨i=10∨i=11∨i=12∨i=13:=by omega
 rcases h with rfl|rfl|rfl|rfl|rfl|rfl|rfl|rfl|rfl|rfl|rfl|rfl|rfl|rfl
 ·exact d1u
 ·exact d1t
 ·exact d1s
 ·exact d1r
 ·exact d1q
 ·exact d1p
 ·exact d1o
 ·exact d1n
 ·exact d1m
 ·exact d1l
 ·exact c7k
 ·exact c7j
 ·exact c7i
 ·exact c7h
theorem c08{d:Bool}(H:a02)(i:Nat)(hi:i<14):a09 L.env d (sem L.env Mf) (.func (.func 208) [] []) [.str (a24 i)] H=some (.bool true,H,[]):=a04 (by kernel_rfl) (by kernel_rfl) rfl rfl (c7g i hi) rfl
def a77(i:Nat):List AV:=(List.range i).map λj=>.str (a24 j)
theorem b9y(i:Nat):a77 (i+1)=a77 i++[.str (a24 i)]:=by unfold a77;rw[f01,e6r];rfl
theorem eqS(a b:List UInt8):aeq L.env 6 9 (.str a) (.str b)=some (a==b):=by kernel_rfl
theorem b7z{i j:Nat}(hi:i<14)(hj:j<14)(h:a24 i=a24 j):i=j:=by unfold a24 at h;simp only[List.cons.injEq,and_true,true_and]at h;have h1:=congrArg UInt8.toNat h.1;have h2:=congrArg UInt8.toNat h.2;simp only[UInt8.toNat_ofNat']at h1 h2;omega
theorem c8b(s:Nat)(hs:s<14):∀(l:List Nat) (b:Nat),(∀j∈l,j<s)→a1j (aeq L.env 6 9) (.str (a24 s)) (l.map λj=>.str (a24 j)) b=some none
 | [],b,_=>rfl
 |j::l,b,h=>by
  have az:(a24 s==a24 j)=false:=by rw[e7r];intro e;have:=b7z hs (by have:=h j (by simp);omega) e;have:=h j (by simp);omega
  simp only[e4r,a1j,eqS,az,e6w];exact c8b s hs l (b+1) (λj hj=>h j (by simp[hj]))
theorem c6n(i:Nat)(hi:i<14):a1j (aeq L.env 6 9) (.str (a24 i)) (a77 i) 0=some none:=c8b i hi _ 0 (λj hj=>by simpa using hj)
def nmO(i:Nat):AObj:=.map (a77 i) (List.replicate i (.bool true)) (List.range i) i
theorem c6m(i:Nat)(hi:i<14):a5f L.env (a01 [some (nmO i)]) 122 (.map 0) (.str (a24 i)) false=some (.bool false):=by
 have h:=c6n i hi;have e:a5f L.env (a01 [some (nmO i)]) 122 (.map 0) (.str (a24 i)) false=match a1j (aeq L.env 6 9) (.str (a24 i)) (a77 i) 0 with
  |some (some j)=>match(List.replicate i (AV.bool true))[j]? with
   |some v=>some (bif false then .tuple [v,.bool true]else v)
   |none=>none
  |some none=>some (.bool false)
  |none=>none:=by kernel_rfl
 rw[e,h]
theorem c6l(i:Nat)(hi:i<14):a1m L.env (a01 [some (nmO i)]) 122 (.map 0) (.str (a24 i)) (.bool true)=some (.set 0 (nmO (i+1))):=by
 have h:=c6n i hi;unfold a1m;have e:a85 L.env (a01 [some (nmO i)]) 122 (.map 0) (.str (a24 i))=match a1j (aeq L.env 6 9) (.str (a24 i)) (a77 i) 0 with
  |some (some j)=>match(a77 i)[j]? with
   |some k0=>bif d32 k0 (.str (a24 i))then some (0,a77 i,List.replicate i (AV.bool true),List.range i,i,some j)else none
   |none=>none
  |some none=>some (0,a77 i,List.replicate i (AV.bool true),List.range i,i,none)
  |none=>none:=by kernel_rfl
 rw[e,h];simp only[nmO,b9y,f01,List.replicate_succ']
theorem b9x(i:Nat):a0t (some (nmO i))=[]:=by
 simp only[nmO,a0t,a77];have h1:∀l:List Nat,a0a (l.map λj=>AV.str (a24 j))=[]:=by intro l;induction l with|nil=>rfl|cons a l ih=>simp[a0a,refs,ih]
 have h2:∀n,a0a (List.replicate n (AV.bool true))=[]:=by intro n;induction n with|zero=>rfl|succ n ih=>simp[e8s,a0a,refs,ih]
 rw[h1,h2];rfl
theorem d45(π:Nat→Option Nat)(i:Nat):a0d π (nmO i)=nmO i:=by have h:=b9x i;simp only[nmO,a0t,e8o]at h;simp only[nmO,a0d,a34 π h.1,a34 π h.2]
theorem d13(c:Cir)(h:c.wf):sem L.env Mf 172 [.agg c.enc] []=some (.int .i64 0,[]):=by
 have hn:=h.len;have fh:c.names.length=c.nodes.length:=by rw[h.names];simp
 simp only[Cir.enc]
 (refine sv Tryz.f172 ?_;simp only[Tryz.f172,gS])
 (repeat first|simp only[ww]|(apply xa;simp+decide only[go_sem];rfl;kernel_rfl))
 have e0:AObj.map [] [] [] 0=nmO 0:=by rfl
 refine a0m (σ:=Nat) kp172_0 (λi=>[(3,.map 0),(8,sl c.mc (c.names.map a3a)),(9,.int .i64 c.names.length),(10,.int .i64 i)])
  (λi=>[some (nmO i)]) (λi=>c.names.length-i) (λi=>i≤c.names.length) 0 ?_ (e5q _) ?_
 ·rw[e0]
  (simp+decide only[go_sem,a03,a00,b9x,d45]<;>rfl)
 ·intro i hi;by_cases ak:i<c.names.length
  ·have hx:c.names[i]?=some (a24 i):=by rw[h.names,e5n,e8v (by omega)];rfl
   have c1:(i:Int)<c.names.length:=by omega
   have hw:=wI1 (n:=i) (by omega);have jf:=λH=>c08 (d:=false) H i (by omega);have nQ:=c6m i (by omega);have iQ:=c6l i (by omega)
   (repeat first|simp only[ww]|(apply xa;simp+decide only[go_sem,c1,ak,hx,hw,jf,nQ,iQ];rfl;kernel_rfl))
   refine a28 (i+1) ?_ (by omega) (by omega)
   (simp+decide only[go_sem,a03,a00,b9x,d45]<;>rfl)
  ·obtain rfl:i=c.names.length:=by omega
   have c1:¬(c.names.length:Int)<c.names.length:=by omega
   (repeat first|simp only[ww]|(apply xa;simp+decide only[go_sem,c1];rfl;kernel_rfl))
   (apply fqb;simp+decide only[go_sem]<;>rfl)
theorem a4c(c:Cir):a0a [.agg c.enc]=[]:=by simp only[a06,a0z,Cir.enc,go_sem]
theorem c3p{d:Bool}(H:a02)(c:Cir)(h:c.wf):a09 L.env d (sem L.env Mf) (.func (.func 172) [] []) [.agg c.enc] H=some (.int .i64 0,H,[]):=a04 (by kernel_rfl) (by kernel_rfl) rfl (a4c c) (d13 c h) rfl
theorem d0g(c:Cir)(h:c.wf):sem L.env Mf 134 [.agg c.enc] []=some (.int .i64 0,[]):=by
 have hn:=h.len;have fh:c.names.length=c.nodes.length:=by rw[h.names];simp
 have bQ:=h.outl;have c1:¬(16384:Int)<c.nodes.length:=by omega
 have c2:¬(16384:Int)<c.outs.length:=by omega
 have cP:=λH x hx=>c6i (d:=false) H c h x hx;have gt:=λH=>c3p (d:=false) H c h;have kj:=λH=>a75 (d:=true) H c;have lW:=λH=>b8j (d:=true) H c c.oc c.outs (by omega) h.outs;have aj:c.enc.length=4:=rfl;simp only[Cir.enc]at cP gt kj lW⊢
 (refine sv Tryz.f134 ?_;simp only[Tryz.f134,gS])
 (repeat first|simp only[ww]|(apply xa;simp+decide only[go_sem,c1,c2,fh];rfl;kernel_rfl))
 refine a0m (σ:=Nat) kp134_1 (λi=>[(1,.ptr 0 0 0),(36,sl c.nc (c.nodes.map Nd.enc)),(37,.int .i64 c.nodes.length),(38,.int .i64 i)])
  (λi=>[some (.row 4 [[sl c.nc (c.nodes.map Nd.enc),sl c.mc (c.names.map a3a),.nilslice,sl c.oc (c.outs.map a0s)]])]) (λi=>c.nodes.length-i) (λi=>i≤c.nodes.length) 0 ?_ (e5q _) ?_
 ·(simp+decide only[go_sem,a03,a00]<;>rfl)
 ·intro i hi;by_cases ak:i<c.nodes.length
  ·obtain⟨x,hx⟩:∃x,c.nodes[i]?=some x:=⟨_,z9e ak⟩
   have c1:(i:Int)<c.nodes.length:=by omega
   have hw:=wI1 (n:=i) (by omega);have fm:=λH=>cP H x (e12 hx);simp only[Nd.enc]at fm
   (repeat first|simp only[ww]|(apply xa;simp+decide only[go_sem,c1,ak,hx,hw,fm];rfl;kernel_rfl))
   refine a28 (i+1) ?_ (by omega) (by omega)
   (simp+decide only[go_sem,a03,a00]<;>rfl)
  ·obtain rfl:i=c.nodes.length:=by omega
   have c1:¬(c.nodes.length:Int)<c.nodes.length:=by omega
   (repeat first|simp only[ww]|(apply xa;simp+decide only[go_sem,c1,gt];rfl;kernel_rfl))
   refine a0m (σ:=Nat) kp134_3 (λi=>[(1,.ptr 0 0 0),(55,.nilslice),(56,.int .i64 0),(57,.int .i64 0)])
    (λi=>[some (.row 4 [[sl c.nc (c.nodes.map Nd.enc),sl c.mc (c.names.map a3a),.nilslice,sl c.oc (c.outs.map a0s)]])]) (λi=>0) (λi=>True) 0 ?_ trivial ?_
   ·(simp+decide only[go_sem,a03,a00]<;>rfl)
   ·intro i _
    (repeat first|simp only[ww]|(apply xa;simp+decide only[go_sem,kj,lW];rfl;kernel_rfl))
    (apply fqb;simp+decide only[go_sem]<;>rfl)
theorem c33{d:Bool}(H:a02)(c:Cir)(h:c.wf):a09 L.env d (sem L.env Mf) (.func (.func 134) [] []) [.agg c.enc] H=some (.int .i64 0,H,[]):=a04 (by kernel_rfl) (by kernel_rfl) rfl (a4c c) (d0g c h) rfl
theorem b34{d:Bool}(H:a02)(k:Nat)(hk:k<256):a09 L.env d (sem L.env Mf) (.func (.func 61) [] []) [.int .u8 k] H=some (.bool (a1g k),H,[]):=a04 (by kernel_rfl) (by kernel_rfl) rfl rfl (d76 k hk) rfl
def foE(fo:List (List (Nat×Nat))):List (List (List AV)):=fo.map (·.map a7a)
theorem a5d(fo:List (List (Nat×Nat))):(foE fo).length=fo.length:=by unfold foE;simp
theorem a6h{fo:List (List (Nat×Nat))}{j:Nat}{L:List (Nat×Nat)}(h:fo[j]?=some L):(foE fo)[j]?=some (L.map a7a):=by unfold foE;rw[e5n,h];rfl
theorem c86(fo:List (List (Nat×Nat)))(j:Nat)(L:List (Nat×Nat))(i k:Nat):(foE fo).set j (L.map a7a++[a7a (i,k)])=foE (fo.set j (L++[(i,k)])):=by unfold foE;rw[f09,e6r];rfl
def J0(c:Cir)(n:Nat)(F:Frm)(H:a02):Prop:=∃i b aB fo,n=c.nodes.length-i∧i≤c.nodes.length∧
 F=[(3,.slice b 0 c.nodes.length (some c.nodes.length)),(4,c3k c),(18,sl c.nc (c.nodes.map Nd.enc)),(19,.int .i64 c.nodes.length),(20,.int .i64 i)]∧Two H b 2 aB (λ_=>none) (foE fo)∧FoOk c.nodes i 0 fo
def J2(c:Cir)(i:Nat)(x:Nd)(n:Nat)(F:Frm)(H:a02):Prop:=∃k b aB fo,n=x.ins.length-k∧k≤x.ins.length∧
 F=[(3,.slice b 0 c.nodes.length (some c.nodes.length)),(4,c3k c),(5,.int .i64 i),(18,sl c.nc (c.nodes.map Nd.enc)),(19,.int .i64 c.nodes.length),(20,.int .i64 i),(26,sl x.c (x.ins.map a0s)),(27,.int .i64 x.ins.length),(28,.int .i64 k)]∧Two H b 2 aB (λ_=>none) (foE fo)∧FoOk c.nodes i k fo
def cpT(fo:List (List (Nat×Nat)))(t:Nat):Nat→Option Nat:=λj=>if j<t then(fo[j]?).map List.length else none
def J4(c:Cir)(fo:List (List (Nat×Nat)))(n:Nat)(F:Frm)(H:a02):Prop:=∃t b aB,n=c.nodes.length-t∧t≤c.nodes.length∧
 F=[(3,.slice b 0 c.nodes.length (some c.nodes.length)),(51,.slice b 0 c.nodes.length (some c.nodes.length)),(52,.int .i64 c.nodes.length),(53,.int .i64 t)]∧Two H b 2 aB (cpT fo t) (foE fo)
theorem c9y(H:a02)(n:Nat)(b:Nat)(h:a01 H b=some (.row 1 (List.replicate n [.nilslice]))):Two H b 2 (λ_=>0) (λ_=>none) (foE (List.replicate n [])):=by
 have g8:foE (List.replicate n [])=List.replicate n []:=by unfold foE;rw[List.map_replicate];rfl
 rw[g8];have cP:∀(j:Nat) (f:List (List AV)),(List.replicate n ([]:List (List AV)))[j]?=some f→f=[]:=by
  intro j f hf;rw[e85]at hf;split at hf
  ·cases hf;rfl
  ·cases hf
 refine⟨?_,λj f hf az=>absurd (cP j f hf) az,λi j f g hf _ az=>absurd (cP i f hf) az,λf hf=>?_⟩
 ·rw[h]
  congr 2
  apply e7s;intro j;unfold a2u;rw[e6s,e85,e85];split<;>rfl
 ·rw[(List.mem_replicate.1 hf).2];exact FlatR.nil
theorem d2h(fo:List (List (Nat×Nat))):cpT fo 0=λ_=>none:=by funext j;simp[cpT]
theorem d2i{fo:List (List (Nat×Nat))}{t:Nat}{L:List (Nat×Nat)}(h:fo[t]?=some L):(λi=>if i=t then some L.length else cpT fo t i)=cpT fo (t+1):=by
 funext j
 unfold cpT;by_cases h1:j=t
 ·subst h1;simp[h]
 ·by_cases h2:j<t
  ·simp[h1,h2,show j<t+1 by omega]
  ·simp[h1,h2,show ¬j<t+1 by omega]
theorem c8p:sem L.env Mf 176 [.nilslice] []=some (.nilslice,[]):=by
 (refine sv Tryz.f176 ?_;simp only[Tryz.f176,gS])
 (repeat first|simp only[ww]|(apply xa;simp+decide only[go_sem];rfl;kernel_rfl))
 (apply fqb;simp+decide only[go_sem]<;>rfl)
theorem d2r(n:Nat)(aa:List (List AV))(hf:FlatR aa):sem L.env Mf 176 [.slice 0 0 n none] [some (.row 2 aa)]=some (.slice 0 0 n (some n),[some (.row 2 aa)]):=by
 have h1:=λπ=>a08 π hf
 (refine sv Tryz.f176 ?_;simp only[Tryz.f176,gS])
 (repeat first|simp only[ww]|(apply xa;simp+decide only[go_sem];rfl;kernel_rfl))
 (apply fqb;simp+decide only[go_sem,h1]<;>rfl)
theorem c0s{d:Bool}(H:a02):a09 L.env d (sem L.env Mf) (.func (.func 176) [] []) [.nilslice] H=some (.nilslice,H,[]):=a04 (by kernel_rfl) (by kernel_rfl) rfl rfl c8p rfl
theorem c4j{d:Bool}{H:a02}{b n:Nat}{aa:List (List AV)}(hf:FlatR aa)(hb:a01 H b=some (.row 2 aa)):a09 L.env d (sem L.env Mf) (.func (.func 176) [] []) [.slice b 0 n none] H=some (.slice b 0 n (some n),H,[b]):=by have h:=a43 (E:=L.env) (ah:=d) (call:=sem L.env Mf) (g:=176) (fs:=[]) (cs:=[]) (ar:=[.slice b 0 n none]) (H:=H) (b:=b) (by kernel_rfl) (by kernel_rfl) rfl hb (a0j hf) (FlatO.row hf) rfl (aq:=[AV.slice 0 0 n none]) (by simp only[e5m,e4t,e4r,e5j,a1u]) (d2r n aa hf) (FlatO.row hf) (a5e b 0 _ n _);rw[a8s hb]at h;exact h
theorem c8c(c:Cir)(h:c.wf):∃r:AV×a02,(∃fo,FoOk c.nodes c.nodes.length 0 fo∧r=(AV.islice ((foE fo).mapIdx λj f=>[slF (cpT fo c.nodes.length j) f]) (some c.nodes.length),[]))∧sem L.env Mf 135 [.agg c.enc] []=some r:=by
 have hn:=h.len;have kj:=λH=>a75 (d:=false) H c;have aN:c.nodes.length≤1000000000:=by omega
 have hov:refs (c3k c)=[]:=rfl;have bI:∀π,ren π (c3k c)=c3k c:=λπ=>a1d π _ rfl;have dk:=λH m hm=>b7x (d:=false) H c m hm;generalize hO:c3k c=O at kj hov bI dk;simp only[Cir.enc]at kj⊢
 (refine svE Tryz.f135 ?_;simp only[Tryz.f135,gS])
 (repeat first|simp only[ww]|(apply xa;simp+decide only[go_sem,kj,aN];rfl;kernel_rfl))
 refine a5m kp135_0 (J0 c) (c.nodes.length-0) ?_ ?_
 ·refine a5i (c9y _ c.nodes.length 1 rfl) ?_ (by rw[a5d];simp;omega) ?_
  ·exact .inl (by simp+decide only[go_sem,hov])
  ·intro π b' aP H1 hb hT;refine⟨0,b',aP,_,rfl,e5q _,?_,hT,FoOk.zero _⟩;simp+decide only[go_sem,hb,bI,hO]<;>rfl
 ·rintro n F H ⟨i,b,aB,fo,rfl,hi,rfl,hT,hF⟩
  by_cases ak:i<c.nodes.length
  ·obtain⟨x,hx⟩:∃x,c.nodes[i]?=some x:=⟨_,z9e ak⟩
   have c1:(i:Int)<c.nodes.length:=by omega
   have hw:=wI1 (n:=i) (by omega);have cz:=a1e hT.top;have oW:=a59 hx;rw[hO]
   (repeat first|simp only[ww]|(apply xa;simp+decide only[go_sem,c1,ak,hx,hw,a91,a92,b5t,c1e,b6a];rfl;kernel_rfl))
   refine a5m kp135_2 (J2 c i x) (x.ins.length-0) ?_ ?_
   ·refine a5i (hT.more) ?_ (by rw[a5d,hF.len];omega) ?_
    ·exact .inl (by simp+decide only[go_sem,hov])
    ·intro π b' aP H1 hb hT;refine⟨0,b',aP,_,rfl,e5q _,?_,hT,hF⟩;simp+decide only[go_sem,hb,bI,hO]<;>rfl
   ·rintro n F H ⟨k,b,aB,fo,rfl,hk,rfl,hT,hF⟩
    rw[hO];by_cases fQ:k<x.ins.length
    ·obtain⟨m,hm⟩:∃m,x.ins[k]?=some m:=⟨_,z9e fQ⟩
     have fP:=h.ins x (e12 hx) m (e12 hm);have po:=λH=>dk H m fP;have c2:(k:Int)<x.ins.length:=by omega
     have cZ:=h.insl (e12 hx);have fg:=wI1 (n:=k) (by omega);have cz:=a1e hT.top;have eO:=hT.top;have qW:m<fo.length:=by rw[hF.len];exact fP
     obtain⟨L,hL⟩:∃L,fo[m]?=some L:=⟨_,z9e qW⟩
     have a8:=a71 (aB:=aB) (cp:=λ_=>none) (a6h hL);have cj:=hF.step (by rw[oW];exact hm) hL;have eU:(a2u aB (λ_=>none) (foE fo)).length=c.nodes.length:=by rw[a3p,a5d,hF.len]
     cases L with
     |nil=>
      simp only[e5j,slV]at a8
      (repeat first|simp only[ww]|(apply xa;simp+decide only[go_sem,c2,fQ,hm,fg,po,cz,eO,fP,a8,a91,a92,a90,b5t,c1e,c5w,b6a,b69,e4s,e7p,e5m,eU];rfl;kernel_rfl))
      refine a2e (x.ins.length-(k+1)) (by omega) ?_;have fv:=hT.app1 (o:=some (.row 2 [a7a (i,k)])) (x:=a7a (i,k)) (a6h hL) rfl rfl;have e2:(foE fo).set m [a7a (i,k)]=foE (fo.set m ([]++[(i,k)])):=c86 fo m [] i k;rw[e2]at fv;refine a5i fv ?_ (by rw[a5d,e7y,hF.len];omega) ?_
      ·exact .inl (by simp+decide only[go_sem,hov])
      ·intro π b' aP H1 hb hT;refine⟨k+1,b',aP,_,rfl,fQ,?_,hT,cj⟩;simp+decide only[go_sem,hb,bI,hO]<;>rfl
     |cons a r=>
      simp only[e4r,slV]at a8;have be:=hT.sub m _ (a6h hL) (by simp);obtain⟨s1,s2⟩:=be;have s3:=a1e s1;simp only[e4r]at s1;have oK:r.length+1+1≤1000000000:=by have:=hF.total hL (h.len) (λy hy=>h.insl hy);simp only[e5l]at this;omega
      (repeat first|simp only[ww]|(apply xa;simp+decide only[go_sem,c2,fQ,hm,fg,po,cz,eO,fP,a8,a91,a92,a90,c40,e7y,s1,s2,s3,oK,b5t,c1e,c5w,b6a,b69,e4s,e7p,e5m,eU];rfl;kernel_rfl))
      refine a2e (x.ins.length-(k+1)) (by omega) ?_;have fv:=hT.app2 (o:=some (.row 2 [a7a (i,k)])) (x:=a7a (i,k)) (a6h hL) rfl rfl;have e2:(foE fo).set m (a7a a::List.map a7a r++[a7a (i,k)])=foE (fo.set m (a::r++[(i,k)])):=c86 fo m (a::r) i k;rw[e2]at fv;rw[c10]at fv;refine a5i fv ?_ (by rw[a5d,e7y,hF.len];omega) ?_
      ·exact .inl (by simp+decide only[go_sem,hov])
      ·intro π b' aP H1 hb hT;refine⟨k+1,b',aP,_,rfl,fQ,?_,hT,cj⟩;simp+decide only[go_sem,hb,bI,hO]<;>rfl
    ·obtain rfl:k=x.ins.length:=by omega
     have c2:¬(x.ins.length:Int)<x.ins.length:=by omega
     (repeat first|simp only[ww]|(apply xa;simp+decide only[go_sem,c2,hw];rfl;kernel_rfl))
     refine a2e (c.nodes.length-(i+1)) (by omega) ?_;refine a5i hT ?_ (by rw[a5d,hF.len];omega) ?_
     ·exact .inl (by simp+decide only[go_sem,hov])
     ·intro π b' aP H1 hb hT;refine⟨i+1,b',aP,_,rfl,by omega,?_,hT,hF.next (by rw[oW])⟩;simp+decide only[go_sem,hb,bI,hO]<;>rfl
  ·obtain rfl:i=c.nodes.length:=by omega
   have c1:¬(c.nodes.length:Int)<c.nodes.length:=by omega
   rw[hO]
   (repeat first|simp only[ww]|(apply xa;simp+decide only[go_sem,c1];rfl;kernel_rfl))
   refine a5m kp135_4 (J4 c fo) (c.nodes.length-0) ?_ ?_
   ·refine a5i hT ?_ (by rw[a5d,hF.len];omega) ?_
    ·exact .inr (by simp+decide only[go_sem,hov])
    ·intro π b' aP H1 hb hT;refine⟨0,b',aP,rfl,e5q _,?_,by rw[d2h];exact hT⟩;simp+decide only[go_sem,hb,bI,hO]<;>rfl
   ·rintro n F H ⟨t,b,aB,rfl,ht,rfl,hT⟩
    by_cases dD:t<c.nodes.length
    ·have c2:(t:Int)<c.nodes.length:=by omega
     have fg:=wI1 (n:=t) (by omega);have cz:=a1e hT.top;have eO:=hT.top;obtain⟨L,hL⟩:∃L,fo[t]?=some L:=⟨_,z9e (by rw[hF.len];exact dD)⟩
     have a8:=a71 (aB:=aB) (cp:=cpT fo t) (a6h hL);have ry:cpT fo t t=none:=by simp[cpT]
     have eU:(a2u aB (cpT fo t) (foE fo)).length=c.nodes.length:=by rw[a3p,a5d,hF.len]
     rw[ry]at a8;have eB:∀H1,H1=H.set b (some (.row 1 ((a2u aB (cpT fo t) (foE fo)).set t [slV (aB t) (some L.length) (L.map a7a)])))→Two H1 b 2 aB (cpT fo (t+1)) (foE fo):=by
      intro H1 mV;have:=hT.clip (H1:=H1) (a6h hL) (by rw[mV,b8d cz]) (λc hc=>by rw[mV,a7d (f05 hc)])
      rwa [d2i hL]at this
     cases L with
     |nil=>
      simp only[e5j,slV]at a8;have b8:=λH=>c0s (d:=false) H
      (repeat first|simp only[ww]|(apply xa;simp+decide only[go_sem,c2,dD,fg,cz,eO,a8,b8,eU,e7y];rfl;kernel_rfl))
      refine a2e (c.nodes.length-(t+1)) (by omega) ?_;refine a5i (eB _ rfl) ?_ (by rw[a5d,hF.len];omega) ?_
      ·exact .inr (by simp+decide only[go_sem,hov])
      ·intro π b' aP H1 hb hT;refine⟨t+1,b',aP,rfl,by omega,?_,hT⟩;simp+decide only[go_sem,hb,bI,hO]<;>rfl
     |cons a r=>
      simp only[e4r,slV]at a8;obtain⟨s1,s2⟩:=hT.sub t _ (a6h hL) (by simp);have b8:=c4j (d:=false) (H:=H) (b:=aB t) (n:=r.length+1) (hT.flat _ (e12 (a6h hL))) s1
      (repeat first|simp only[ww]|(apply xa;simp+decide only[go_sem,c2,dD,fg,cz,eO,a8,b8,eU,e7y];rfl;kernel_rfl))
      refine a2e (c.nodes.length-(t+1)) (by omega) ?_;refine a5i (eB _ (by simp only[e4r,slV,c10,e5l])) ?_ (by rw[a5d,hF.len];omega) ?_
      ·exact .inr (by simp+decide only[go_sem,hov])
      ·intro π b' aP H1 hb hT;refine⟨t+1,b',aP,rfl,by omega,?_,hT⟩;simp+decide only[go_sem,hb,bI,hO]<;>rfl
    ·obtain rfl:t=c.nodes.length:=by omega
     have c2:¬(c.nodes.length:Int)<c.nodes.length:=by omega
     have hz:=hT.frz (some c.nodes.length);rw[a5d,hF.len]at hz
     (repeat first|simp only[ww]|(apply xa;simp+decide only[go_sem,c2];rfl;kernel_rfl))
     refine b6p (vs:=[.slice b 0 c.nodes.length (some c.nodes.length)]) (r:=(_,[])) (by simp+decide only[go_sem]) ?_ ⟨fo,hF,rfl⟩;show a1q false 0 (.slice b 0 c.nodes.length (some c.nodes.length)) H=_;rw[c8a,hz];rfl
def foR(c:Cir)(fo:List (List (Nat×Nat))):List (List AV):=(foE fo).mapIdx λj f=>[slF (cpT fo c.nodes.length j) f]
theorem d6t{c:Cir}{fo:List (List (Nat×Nat))}{j:Nat}{L:List (Nat×Nat)}(h:fo[j]?=some L)(hj:j<c.nodes.length):(foR c fo)[j]?=some [slF (some L.length) (L.map a7a)]:=by unfold foR;rw[e6s,a6h h];simp[cpT,hj,h]
theorem c0l(c:Cir)(h:c.wf):∃fo,FoOk c.nodes c.nodes.length 0 fo∧∀(d:Bool) (H:a02),a09 L.env d (sem L.env Mf) (.func (.func 135) [] []) [.agg c.enc] H=some (.islice (foR c fo) (some c.nodes.length),H,[]):=by obtain⟨r,⟨fo,h1,rfl⟩,h2⟩:=c8c c h;exact⟨fo,h1,λd H=>a04 (by kernel_rfl) (by kernel_rfl) rfl (a4c c) h2 rfl⟩
def kcb(c:Cir):Option AObj:=some (.row 4 [[sl c.nc (c.nodes.map Nd.enc),sl c.mc (c.names.map a3a),.nilslice,sl c.oc (c.outs.map a0s)]])
attribute [go_sem] kcb
def JL2(c:Cir)(fo:List (List (Nat×Nat)))(n:Nat)(F:Frm)(H:a02):Prop:=∃(out left ready:List Nat) (done:Nat),n=c.nodes.length-done∧
 F=[(1,.ptr 0 0 0),(5,.slice 1 0 c.nodes.length (some c.nodes.length)),(6,.slice 2 0 c.nodes.length (some c.nodes.length)),(7,grV 3 (ready.map a0s)),(10,.islice (foR c fo) (some c.nodes.length)),(11,.int .i64 done)]∧
 H=[kcb c,some (.row 1 (out.map a0s)),some (.row 1 (left.map a0s))]++grH 1 (ready.map a0s)∧Kahn c.nodes left ready done []∧out.length=c.nodes.length∧(∀v∈out,v≤300*done)∧Lev c.nodes out ready done []
def JL4(c:Cir)(fo:List (List (Nat×Nat)))(done x:Nat)(L:List (Nat×Nat))(n:Nat)(F:Frm)(H:a02):Prop:=∃(out left ready:List Nat) (q:Nat),n=L.length-q∧q≤L.length∧
 F=[(1,.ptr 0 0 0),(5,.slice 1 0 c.nodes.length (some c.nodes.length)),(6,.slice 2 0 c.nodes.length (some c.nodes.length)),(7,grV 3 (ready.map a0s)),(10,.islice (foR c fo) (some c.nodes.length)),(11,.int .i64 (done+1:Nat)),(12,.int .i64 x),(76,.islice (L.map a7a) (some L.length)),(77,.int .i64 L.length),(78,.int .i64 q)]∧
 H=[kcb c,some (.row 1 (out.map a0s)),some (.row 1 (left.map a0s))]++grH 1 (ready.map a0s)∧Kahn c.nodes left ready done (L.take q)∧ready[done]?=some x∧out.length=c.nodes.length∧(∀v∈out,v≤300*done+q)∧Lev c.nodes out ready done (L.take q)
theorem e6h(n:Nat):List.replicate n [AV.int .i64 0]=(List.replicate n 0).map a0s:=by rw[List.map_replicate];rfl
theorem d37(a b:Nat):d38 (.int .i64 a) [.int .i64 (b:Int)]=some (.int .i64 ((max a b:Nat):Int)):=by
 simp only[d38];by_cases h:(b:Int)>a
 ·rw[e6q h];congr 2;omega
 ·rw[e5s h];congr 2;omega
theorem c75(c:Cir)(h:c.wf):∃r:AV×a02,(∃lv:List Nat,lv.length=c.nodes.length∧(∀v∈lv,v≤100000)∧Rises c.nodes lv∧r=(.tuple [.islice (lv.map a0s) (some c.nodes.length),.int .i64 0],[]))∧sem L.env Mf 84 [.agg c.enc] []=some r:=by
 have hn:=h.len;obtain⟨fo,g8,jQ⟩:=c0l c h;have jQ:=jQ false;have pg:=λH=>c33 (d:=false) H c h;have aN:c.nodes.length≤1000000000:=by omega
 have sj:a0t (kcb c)=[]:=by simp only[go_sem]
 simp only[Cir.enc]at jQ pg⊢
 (refine svE Tryz.f84 ?_;simp only[Tryz.f84,gS])
 (repeat first|simp only[ww]|(apply xa;simp+decide only[go_sem,pg,aN];rfl;kernel_rfl))
 refine a0m (σ:=Nat) kp84_0 (λi=>[(1,.ptr 0 0 0),(5,.slice 1 0 c.nodes.length (some c.nodes.length)),(6,.slice 2 0 c.nodes.length (some c.nodes.length)),(7,grV 3 ((a3d c.nodes i).map a0s)),(29,sl c.nc (c.nodes.map Nd.enc)),(30,.int .i64 c.nodes.length),(31,.int .i64 i)])
  (λi=>[kcb c,some (.row 1 ((List.replicate c.nodes.length 0).map a0s)),some (.row 1 ((a2q c.nodes i).map a0s))]++grH 1 ((a3d c.nodes i).map a0s)) (λi=>c.nodes.length-i) (λi=>i≤c.nodes.length) 0 ?_ (e5q _) ?_
 ·rw[c05,show a3d c.nodes 0=[]from rfl]
  (simp+decide only[go_sem,a03,a00,e6h,e5j,a17,a18,a29,a3q]<;>rfl)
 ·intro i hi;by_cases ak:i<c.nodes.length
  ·obtain⟨x,hx⟩:∃x,c.nodes[i]?=some x:=⟨_,z9e ak⟩
   have c1:(i:Int)<c.nodes.length:=by omega
   have hw:=wI1 (n:=i) (by omega);have k14:=h.kind x (e12 hx);have b6:=λH=>b34 (d:=false) H x.kind (by omega);have cq:(a2q c.nodes i).length=c.nodes.length:=by simp[a2q]
   have eK:(a2q c.nodes i)[i]?=some 0:=by rw[a4v ak];simp
   have eU:=c3c c.nodes i;have eR:=b7s c.nodes i;have aC:=b2g ak;have fH:(a2q c.nodes (i+1))[i]?=some (a8x c.nodes i):=by rw[a4v ak];simp
   have bz:a8x c.nodes i=if a1g x.kind=true then x.ins.length else 0:=by unfold a8x;rw[a1v hx,a59 hx]
   have dT:((a2q c.nodes i).map a0s).set i [AV.int .i64 (a8x c.nodes i)]=(a2q c.nodes (i+1)).map a0s:=by rw[←aC,f09];rfl
   by_cases b5:a1g x.kind=true
   ·rw[e6q b5]at bz;rw[bz]at dT fH eR;by_cases hz:x.ins.length=0
    ·rw[e6q hz]at eR;have dG:(x.ins.length:Int)=0:=by omega
     rw[hz]at dT fH;generalize a3d c.nodes i=l at eU eR;cases l with
     |nil=>
      (repeat first|simp only[ww]|(apply xa;simp+decide only[go_sem,c1,ak,hx,hw,b6,b5,cq,eK,dT,fH,hz,e5j,a17,a18];rfl;kernel_rfl))
      refine a28 (i+1) ?_ (by omega) (by omega);rw[eR]
      (simp+decide only[go_sem,a03,a00,e5j,e5m,e4r,a0k,a0l,e5r,a29,a3q]<;>rfl)
     |cons a r=>
      simp only[e5l]at eU;have eT:r.length+1+1≤1000000000:=by omega
      (repeat first|simp only[ww]|(apply xa;simp+decide only[go_sem,c1,ak,hx,hw,b6,b5,cq,eK,dT,fH,hz,e4r,a0k,a0l,eT,e5l];rfl;kernel_rfl))
      refine a28 (i+1) ?_ (by omega) (by omega);rw[eR]
      (simp+decide only[go_sem,a03,a00,e7p,e4r,a0k,a0l,a29,a3q,e5l]<;>rfl)
    ·rw[e5s hz]at eR;have dG:¬(x.ins.length:Int)=0:=by omega
     generalize a3d c.nodes i=l at eU eR;cases l with
     |nil=>
      (repeat first|simp only[ww]|(apply xa;simp+decide only[go_sem,c1,ak,hx,hw,b6,b5,cq,eK,dT,fH,dG,e5j,a17,a18];rfl;kernel_rfl))
      refine a28 (i+1) ?_ (by omega) (by omega);rw[eR]
      (simp+decide only[go_sem,a03,a00,e5j,a17,a18,a29,a3q]<;>rfl)
     |cons a r=>
      (repeat first|simp only[ww]|(apply xa;simp+decide only[go_sem,c1,ak,hx,hw,b6,b5,cq,eK,dT,fH,dG,e4r,a0k,a0l];rfl;kernel_rfl))
      refine a28 (i+1) ?_ (by omega) (by omega);rw[eR]
      (simp+decide only[go_sem,a03,a00,e4r,a0k,a0l,a29,a3q]<;>rfl)
   ·have b5:a1g x.kind=false:=by simpa using b5
    rw[b5]at bz;have bz:a8x c.nodes i=0:=bz;rw[bz,e6q rfl]at eR;have bE:=c06 ak bz
    ·
     generalize a3d c.nodes i=l at eU eR;cases l with
     |nil=>
      (repeat first|simp only[ww]|(apply xa;simp+decide only[go_sem,c1,ak,hx,hw,b6,b5,cq,eK,e5j,a17,a18];rfl;kernel_rfl))
      refine a28 (i+1) ?_ (by omega) (by omega);rw[eR,←bE]
      (simp+decide only[go_sem,a03,a00,e5j,e5m,e4r,a0k,a0l,e5r,a29,a3q]<;>rfl)
     |cons a r=>
      simp only[e5l]at eU;have eT:r.length+1+1≤1000000000:=by omega
      (repeat first|simp only[ww]|(apply xa;simp+decide only[go_sem,c1,ak,hx,hw,b6,b5,cq,eK,e4r,a0k,a0l,eT,e5l];rfl;kernel_rfl))
      refine a28 (i+1) ?_ (by omega) (by omega);rw[eR,←bE]
      (simp+decide only[go_sem,a03,a00,e7p,e4r,a0k,a0l,a29,a3q,e5l]<;>rfl)
  ·obtain rfl:i=c.nodes.length:=by omega
   have c1:¬(c.nodes.length:Int)<c.nodes.length:=by omega
   have hK:=Kahn.start c.nodes;generalize a3d c.nodes c.nodes.length=ready at hK;generalize a2q c.nodes c.nodes.length=left at hK
   (repeat first|simp only[ww]|(apply xa;simp+decide only[go_sem,c1,jQ];rfl;kernel_rfl))
   refine a5m kp84_2 (JL2 c fo) (c.nodes.length-0) ?_ ?_
   ·refine⟨_,_,?_,List.replicate c.nodes.length 0,left,ready,0,rfl,rfl,rfl,hK,by simp,by simp,Lev.start _ _ _⟩;cases ready with
    |nil=>(simp+decide only[go_sem,a03,a00,e5j,a17,a18,a29,a3q]<;>rfl)
    |cons a r=>(simp+decide only[go_sem,a03,a00,e4r,a0k,a0l,a29,a3q]<;>rfl)
   ·rintro n F H ⟨out,left,ready,done,rfl,rfl,rfl,hK,bQ,er,hV⟩
    have az:ready≠[]:=by
     rintro rfl
     have lS:done=0:=by have:=hK.dle;simpa using this
     subst lS;have h1:c.nodes.length≤0:=hK.all h.acyc;have h2:=h.pos;omega
    have fu:=hK.bound;have hY:=hK.dle;have ce:ready.map a0s≠[]:=by simpa using az
    rw[a6r 3 ce,a6s 1 ce,c10];have o4:=wI1 (n:=done) (by omega);have cq:=hK.ll;by_cases ak:done<ready.length
    ·obtain⟨x,hx⟩:∃x,ready[done]?=some x:=⟨_,z9e ak⟩
     have mr:=hK.rn x (e12 hx);have c1:(done:Int)<ready.length:=by omega
     obtain⟨L,hL⟩:∃L,fo[x]?=some L:=⟨_,z9e (by rw[g8.len];exact mr)⟩
     have rP:=g8.node hL (e6o _);have sD:=g8.total hL hn (λy hy=>h.insl hy);have mf:∀a,a<c.nodes.length→cnt L a=(a35 c.nodes a).count x:=λa ha=>by rw[g8.num x L hL a,e6q ha]
     have hg:=d6t hL mr;cases hLL:L with
     |nil=>
      subst hLL;simp only[e5j,slF]at hg
      (repeat first|simp only[ww]|(apply xa;simp+decide only[go_sem,c1,ak,hx,o4,hg];rfl;kernel_rfl))
      refine a2e (c.nodes.length-(done+1)) (by omega) ⟨_,_,?_,out,left,ready,done+1,rfl,rfl,rfl,hK.next hx mf,bQ,λv hv=>by have:=er v hv;omega,hV.next hx mf⟩;rw[a6r 3 ce,a6s 1 ce]
      (simp+decide only[go_sem,a03,a00,a29,a3q]<;>rfl)
     |cons l0 lr=>
      rw[hLL]at hg;simp only[e4r,slF]at hg;rw[←e4r,←hLL]at hg;have sE:L.length≠0:=by rw[hLL];simp
      have rQ:¬(L.length:Int)=0:=by omega
      have oK:(L.map a7a).length=L.length:=c10 ..
      (repeat first|simp only[ww]|(apply xa;simp+decide only[go_sem,c1,ak,hx,o4,hg,rQ,oK];rfl;kernel_rfl))
      refine a5m kp84_4 (JL4 c fo done x L) (L.length-0) ?_ ?_
      ·refine⟨_,_,?_,out,left,ready,0,rfl,e5q _,rfl,rfl,by rw[e71];exact hK,hx,bQ,λv hv=>by have:=er v hv;omega,by rw[e71];exact hV⟩;rw[a6r 3 ce,a6s 1 ce]
       (simp+decide only[go_sem,a03,a00,a29,a3q]<;>rfl)<;>rfl
      ·clear hK fu hY ce cq er bQ hx ak c1 az hV
       rintro n F H ⟨out,left,ready,q,rfl,hq,rfl,rfl,hK,hx,bQ,er,hV⟩
       have fu:=hK.bound;have lR:=(e5k.1 hx).1;have az:ready≠[]:=by rintro rfl;simp at lR
       have ce:ready.map a0s≠[]:=by simpa using az
       rw[a6r 3 ce,a6s 1 ce,c10];have cq:=hK.ll;have gR:=wI1 (n:=q) (by omega);by_cases ik:q<L.length
       ·obtain⟨l,hl⟩:∃l,L[q]?=some l:=⟨_,z9e ik⟩
        obtain⟨a,p⟩:=l;have gI:a<c.nodes.length:=rP (a,p) (e12 hl);obtain⟨y,hy⟩:∃y,c.nodes[a]?=some y:=⟨_,z9e gI⟩
        have c2:(q:Int)<L.length:=by omega
        have k14:=h.kind y (e12 hy);have b6:=λH=>b34 (d:=false) H y.kind (by omega);have ht:=a1a hl;have nS:(L.map a7a)[q]?=some [.int .i64 a,.int .i64 p]:=by rw[e5n,hl];rfl
        by_cases b5:a1g y.kind=true
        ·have nT:a1g (a0y c.nodes a)=true:=by rw[a1v hy];exact b5
         have jf:Pc.cnt (L.take q++[(a,p)]) a≤b7c c.nodes ready done a:=by refine Nat.le_trans ?_ (d5v hK.nd hx);rw[←mf a gI,←ht];unfold Pc.cnt;exact List.Sublist.count_le _ ((List.take_sublist _ _).map _)
         have gn:=hK.pos gI nT jf;have gt:a∉ready:=λhm=>by have:=(hK.zero a gI).1 hm;omega
         have ku:=hK.dec gI nT jf;rw[←ht]at ku;obtain⟨va,iP⟩:∃v,out[a]?=some v:=⟨_,z9e (by omega)⟩
         obtain⟨vx,gT⟩:∃v,out[x]?=some v:=⟨_,z9e (by omega)⟩
         obtain⟨w,hw⟩:∃v,left[a]?=some v:=⟨_,z9e (by omega)⟩
         have o5:left.getD a 0=w:=by rw[List.getD,hw];rfl
         rw[o5]at gn ku;have bx:=er vx (e12 gT);have ba:=er va (e12 iP);have o6:=wI1 (n:=vx) (by omega);have fg:IntKind.i64.wrap ((w:Int)-1)=((w-1:Nat):Int):=by
          have o3:w≤100000:=by have h1:=hK.eq a gI nT;rw[o5]at h1;have h2:b7c c.nodes ready done a≤(a35 c.nodes a).length:=List.length_filter_le _ _;rw[a59 hy]at h2;have h3:=h.insl (e12 hy);omega
          rw[w64 (by omega) (by omega)];omega
         have pv:d38 (.int .i64 va) [.int .i64 ((vx+1:Nat):Int)]=some (.int .i64 ((max va (vx+1):Nat):Int)):=d37 _ _;have ph:(out.map a0s).set a [AV.int .i64 ((max va (vx+1):Nat):Int)]=(out.set a (max va (vx+1))).map a0s:=by rw[f09];rfl
         have pi:(left.map a0s).set a [AV.int .i64 ((w-1:Nat):Int)]=(left.set a (w-1)).map a0s:=by rw[f09];rfl
         have mH:(left.set a (w-1))[a]?=some (w-1):=by rw[e70];simp;omega
         have bM:(left.set a (w-1)).length=c.nodes.length:=by rw[e7y];exact cq
         have mD:(out.set a (max va (vx+1))).length=c.nodes.length:=by rw[e7y];exact bQ
         have lm:∀v∈out.set a (max va (vx+1)),v≤300*done+(q+1):=by
          intro v hv;rcases e9f hv with hv|rfl
          ·have:=er v hv;omega
          ·omega
         have sx:done<c.nodes.length:=by omega
         have rD:a<left.length:=by omega
         have iN:x<out.length:=by omega
         by_cases hz:w-1=0
         ·rw[e6q hz]at ku;have dG:decide (((w-1:Nat):Int)=0)=true:=e7o (by omega);have eT:ready.length+1≤1000000000:=by omega
          have eN:(ready++[a])[done]?=some x:=by rw[e6j lR];exact hx
          (repeat first|simp only[ww]|(apply xa;simp+decide only[go_sem,c2,ik,nS,hy,b6,b5,gR,gI,iP,gT,hw,bQ,cq,mr,o6,fg,pv,ph,pi,mH,bM,mD,dG,eT];rfl;kernel_rfl))
          refine a2e (L.length-(q+1)) (by omega) ⟨_,_,?_,out.set a (max va (vx+1)),left.set a (w-1),ready++[a],q+1,rfl,ik,rfl,rfl,ku,eN,mD,lm,by rw[ht];exact hV.dec hx gt iP gT (.inr rfl)⟩
          (simp+decide only[go_sem,a03,a00,c1y,d21,a29,a3q]<;>rfl)<;>rfl
         ·rw[e5s hz]at ku;have dG:¬((w-1:Nat):Int)=0:=by omega
          (repeat first|simp only[ww]|(apply xa;simp+decide only[go_sem,c2,ik,nS,hy,b6,b5,gR,gI,iP,gT,hw,bQ,cq,mr,o6,fg,pv,ph,pi,mH,bM,mD,dG];rfl;kernel_rfl))
          refine a2e (L.length-(q+1)) (by omega) ⟨_,_,?_,out.set a (max va (vx+1)),left.set a (w-1),ready,q+1,rfl,ik,rfl,rfl,ku,hx,mD,lm,by rw[ht];exact hV.dec hx gt iP gT (.inl rfl)⟩;rw[a6r 3 ce,a6s 1 ce]
          (simp+decide only[go_sem,a03,a00,a29,a3q]<;>rfl)<;>rfl
        ·have b5:a1g y.kind=false:=by simpa using b5
         (repeat first|simp only[ww]|(apply xa;simp+decide only[go_sem,c2,ik,nS,hy,b6,b5,gR,gI];rfl;kernel_rfl))
         refine a2e (L.length-(q+1)) (by omega) ⟨_,_,?_,out,left,ready,q+1,rfl,ik,rfl,rfl,by rw[ht];exact hK.skip (by rw[a1v hy];exact b5),hx,bQ,λv hv=>by have:=er v hv;omega,by rw[ht];exact hV.skip (by rw[a1v hy];exact b5)⟩;rw[a6r 3 ce,a6s 1 ce]
         (simp+decide only[go_sem,a03,a00,a29,a3q]<;>rfl)<;>rfl
       ·obtain rfl:q=L.length:=by omega
        have c2:¬(L.length:Int)<L.length:=by omega
        rw[e82]at hK hV
        (repeat first|simp only[ww]|(apply xa;simp+decide only[go_sem,c2];rfl;kernel_rfl))
        refine a2e (c.nodes.length-(done+1)) (by omega) ⟨_,_,?_,out,left,ready,done+1,rfl,rfl,rfl,hK.next hx mf,bQ,λv hv=>by have:=er v hv;omega,hV.next hx mf⟩;rw[a6r 3 ce,a6s 1 ce]
        (simp+decide only[go_sem,a03,a00,a29,a3q]<;>rfl)<;>rfl
    ·obtain rfl:done=ready.length:=by omega
     have c1:¬(ready.length:Int)<ready.length:=by omega
     have aT:=hK.all h.acyc;have c2:¬(ready.length:Int)<c.nodes.length:=by omega
     (repeat first|simp only[ww]|(apply xa;simp+decide only[go_sem,c1,c2];rfl;kernel_rfl))
     refine a81 (vs:=[.slice 1 0 c.nodes.length (some c.nodes.length),.int .i64 0]) (r:=(_,[])) (by simp+decide only[go_sem]) ?_ ⟨out,bQ,λv hv=>by have:=er v hv;omega,hV.all hK aT,rfl⟩;show a1q false 0 (.tuple [.slice 1 0 c.nodes.length (some c.nodes.length),.int .i64 0]) _=_;rw[←bQ];simp+decide only[go_sem,d6s]
theorem b2d(c:Cir)(h:c.wf):∃lv:List Nat,lv.length=c.nodes.length∧(∀v∈lv,v≤100000)∧Rises c.nodes lv∧∀(d:Bool) (H:a02),a09 L.env d (sem L.env Mf) (.func (.func 84) [] []) [.agg c.enc] H=some (.tuple [.islice (lv.map a0s) (some c.nodes.length),.int .i64 0],H,[]):=by obtain⟨r,⟨lv,h1,h2,hR,rfl⟩,h3⟩:=c75 c h;exact⟨lv,h1,h2,hR,λd H=>a04 (by kernel_rfl) (by kernel_rfl) rfl (a4c c) h3 rfl⟩
theorem c6r(c:Cir)(h:c.wf):sem L.env Mf 34 [.agg c.enc] []=some (.int .i64 0,[]):=by
 obtain⟨lv,_,_,_,hc⟩:=b2d c h;have hc:=hc false;simp only[Cir.enc]at hc⊢
 (refine sv Tryz.f34 ?_;simp only[Tryz.f34,gS])
 (repeat first|simp only[ww]|(apply xa;simp+decide only[go_sem,hc];rfl;kernel_rfl))
 (apply fqb;simp+decide only[go_sem]<;>rfl)
theorem b9z{d:Bool}(H:a02)(c:Cir)(h:c.wf):a09 L.env d (sem L.env Mf) (.func (.func 34) [] []) [.agg c.enc] H=some (.int .i64 0,H,[]):=a04 (by kernel_rfl) (by kernel_rfl) rfl (a4c c) (c6r c h) rfl
theorem d1k(i:Int):sem L.env Mf 147 [.int .i64 i] []=some (.bool false,[]):=by
 (refine sv Tryz.f147 ?_;simp only[Tryz.f147,gS])
 (repeat first|simp only[ww]|(apply xa;simp+decide only[go_sem];rfl;kernel_rfl))
 (apply fqb;simp+decide only[go_sem]<;>rfl)
theorem c3x{d:Bool}(H:a02)(i:Int):a09 L.env d (sem L.env Mf) (.func (.func 147) [] []) [.int .i64 i] H=some (.bool false,H,[]):=a04 (by kernel_rfl) (by kernel_rfl) rfl rfl (d1k i) rfl
theorem c4i(a b:Nat):sem L.env Mf 104 [.int .i64 a,.int .i64 b] []=some (.int .i64 (d4f a b),[]):=by
 have hn:=λH i=>c3x (d:=false) H i;unfold d4f;by_cases h1:a<b
 ·have c1:(a:Int)<b:=by omega
  rw[e6q h1]
  (refine sv Tryz.f104 ?_;simp only[Tryz.f104,gS])
  (repeat first|simp only[ww]|(apply xa;simp+decide only[go_sem,hn,c1];rfl;kernel_rfl))
  (apply fqb;simp+decide only[go_sem]<;>rfl)
 have c1:¬(a:Int)<b:=by omega
 rw[e5s h1];by_cases h2:b<a
 ·have c2:(b:Int)<a:=by omega
  rw[e6q h2]
  (refine sv Tryz.f104 ?_;simp only[Tryz.f104,gS])
  (repeat first|simp only[ww]|(apply xa;simp+decide only[go_sem,hn,c1,c2];rfl;kernel_rfl))
  (apply fqb;simp+decide only[go_sem]<;>rfl)
 ·have c2:¬(b:Int)<a:=by omega
  rw[e5s h2]
  (refine sv Tryz.f104 ?_;simp only[Tryz.f104,gS])
  (repeat first|simp only[ww]|(apply xa;simp+decide only[go_sem,hn,c1,c2];rfl;kernel_rfl))
  (apply fqb;simp+decide only[go_sem]<;>rfl)
theorem b8n{d:Bool}(H:a02)(a b:Nat):a09 L.env d (sem L.env Mf) (.func (.func 104) [] []) [.int .i64 a,.int .i64 b] H=some (.int .i64 (d4f a b),H,[]):=a04 (by kernel_rfl) (by kernel_rfl) rfl rfl (c4i a b) rfl
def lvO(lv:List Nat):AObj:=.row 1 [[.islice (lv.map a0s) (some lv.length)]]
attribute [go_sem] lvO
theorem a3s(lv:List Nat):FlatR [[AV.islice (lv.map a0s) (some lv.length)]]:=FlatR.cons rfl FlatR.nil
theorem c6h(lv:List Nat)(x y vx vy:Nat)(hx:lv[x]?=some vx)(hy:lv[y]?=some vy):sem L.env Mf 103 [.int .i64 x,.int .i64 y,.ptr 0 0 0] [some (lvO lv)]=some (.int .i64 (d4f vx vy),[some (lvO lv)]):=by
 have hc:=λH=>b8n (d:=true) H vx vy;have h1:=(e5k.1 hx).1;have h2:=(e5k.1 hy).1
 (refine sv Tryz.f103 ?_;simp only[Tryz.f103,gS])
 (repeat first|simp only[ww]|(apply xa;simp+decide only[go_sem,hc,hx,hy,h1,h2];rfl;kernel_rfl))
 (apply fqb;simp+decide only[go_sem]<;>rfl)
theorem b9u{d:Bool}{H:a02}{b:Nat}(lv:List Nat)(x y vx vy:Nat)(hx:lv[x]?=some vx)(hy:lv[y]?=some vy)(hb:a01 H b=some (lvO lv)):a09 L.env d (sem L.env Mf) (.func (.func 103) [] [.ptr b 0 0]) [.int .i64 x,.int .i64 y] H=some (.int .i64 (d4f vx vy),H,[b]):=a2h (fs:=[]) (cs:=[.ptr b 0 0]) (ar:=[.int .i64 x,.int .i64 y]) (by kernel_rfl) (by kernel_rfl) rfl hb (a0j (a3s lv)) (FlatO.row (a3s lv)) rfl (aq:=[.int .i64 x,.int .i64 y,.ptr 0 0 0]) (by simp[ren,a8e]) (c6h lv x y vx vy hx hy) rfl
def b1d:AV:=.func (.func 103) [] [.ptr 1 0 0]
def Srt(lv data:List Nat):Prop:=SortI (λv=>lv.getD v 0) data data.length
def JI0(lv d0:List Nat)(n:Nat)(F:Frm)(H:a02):Prop:=∃(i:Nat) (data:List Nat),n=d0.length-i∧1≤i∧
 F=[(0,.slice 0 0 d0.length (some d0.length)),(1,.int .i64 0),(2,.int .i64 d0.length),(3,b1d),(8,.int .i64 i)]∧H=[some (.row 1 (data.map a0s)),some (lvO lv)]∧data.Perm d0∧SortI (λv=>lv.getD v 0) data i
def JI2(lv d0:List Nat)(i:Nat)(n:Nat)(F:Frm)(H:a02):Prop:=∃(j:Nat) (data:List Nat),n=j∧j<d0.length∧
 F=[(0,.slice 0 0 d0.length (some d0.length)),(1,.int .i64 0),(2,.int .i64 d0.length),(3,b1d),(8,.int .i64 i),(9,.int .i64 j)]∧H=[some (.row 1 (data.map a0s)),some (lvO lv)]∧data.Perm d0∧j≤i∧SortJ (λv=>lv.getD v 0) data i j
theorem b88(lv d0:List Nat)(hl:d0.length≤1000)(hd:∀v∈d0,v<lv.length):∃r:AV×a02,(∃data:List Nat,data.Perm d0∧Srt lv data∧r=(.tuple [],[some (.row 1 (data.map a0s)),some (lvO lv)]))∧
 sem L.env Mf 193 [.slice 0 0 d0.length (some d0.length),.int .i64 0,.int .i64 d0.length,b1d] [some (.row 1 (d0.map a0s)),some (lvO lv)]=some r:=by
 unfold b1d
 (refine svE Tryz.f193 ?_;simp only[Tryz.f193,gS])
 (repeat first|simp only[ww]|(apply xa;simp+decide only[go_sem];rfl;kernel_rfl))
 refine a5m kp193_0 (JI0 lv d0) (d0.length-1) ?_ ?_
 ·refine⟨_,_,?_,1,d0,rfl,e6o _,rfl,rfl,List.Perm.refl _,SortI.one⟩;unfold b1d
  (simp+decide only[go_sem,a03,a00,a29,a3q]<;>rfl)<;>rfl
 ·rintro n F H ⟨i,data,rfl,re,rfl,rfl,hp,hS⟩
  unfold b1d;have hw:=wI1 (n:=i) ;by_cases ak:i<d0.length
  ·have c1:(i:Int)<d0.length:=by omega
   have hw:=wI1 (n:=i) (by omega)
   (repeat first|simp only[ww]|(apply xa;simp+decide only[go_sem,c1];rfl;kernel_rfl))
   refine a5m kp193_2 (JI2 lv d0 i) i ?_ ?_
   ·refine⟨_,_,?_,i,data,rfl,ak,rfl,rfl,hp,e6o _,hS.start⟩;unfold b1d
    (simp+decide only[go_sem,a03,a00,a29,a3q]<;>rfl)<;>rfl
   ·rintro n F H ⟨j,data,rfl,hj,rfl,rfl,hp,fk,hS⟩
    unfold b1d;have aj:=hp.length_eq;cases n with
    |zero=>
     (repeat first|simp only[ww]|(apply xa;simp+decide only[go_sem];rfl;kernel_rfl))
     refine a2e (d0.length-(i+1)) (by omega) ⟨_,_,?_,i+1,data,rfl,by omega,rfl,rfl,hp,hS.stop (.inl rfl)⟩;unfold b1d
     (simp+decide only[go_sem,a03,a00,a29,a3q,hw]<;>rfl)<;>rfl
    |succ j=>
     obtain⟨x,hx⟩:∃x,data[j+1]?=some x:=⟨_,z9e (by omega)⟩
     obtain⟨y,hy⟩:∃y,data[j]?=some y:=⟨_,z9e (by omega)⟩
     obtain⟨vx,gT⟩:∃v,lv[x]?=some v:=⟨_,z9e (hd x (hp.mem_iff.1 (e12 hx)))⟩
     obtain⟨vy,o7⟩:∃v,lv[y]?=some v:=⟨_,z9e (hd y (hp.mem_iff.1 (e12 hy)))⟩
     have c0:(0:Int)<((j+1:Nat):Int):=by omega
     have gx:j<d0.length:=by omega
     have pD:j+1<data.length:=by omega
     have pC:j<data.length:=by omega
     have be:IntKind.i64.wrap (((j+1:Nat):Int)-1)=(j:Int):=by rw[w64 (by omega) (by omega)];omega
     have ag:=b9u (d:=true) (H:=[some (.row 1 (data.map a0s)),some (lvO lv)]) (b:=1) lv x y vx vy gT o7 rfl;simp only[lvO]at ag;have kx:lv.getD x 0=vx:=by rw[List.getD,gT];rfl
     have ky:lv.getD y 0=vy:=by rw[List.getD,o7];rfl
     by_cases bA:d4f vx vy<0
     ·have ij:(((data.map a0s).set (j+1) [AV.int .i64 y]).set j [AV.int .i64 x])=((data.set (j+1) y).set j x).map a0s:=by rw[f09,f09];rfl
      have pH:((data.map a0s).set (j+1) [AV.int .i64 y])[j]?=some [AV.int .i64 y]:=by rw[List.getElem?_set_ne (by omega),e5n,hy];rfl
      (repeat first|simp only[ww]|(apply xa;simp+decide only[go_sem,c0,hj,gx,pD,pC,hx,hy,be,ag,bA,aj,e7y,ij,pH];rfl;kernel_rfl))
      refine a2e j (by omega) ⟨_,_,?_,j,_,rfl,gx,rfl,rfl,(c5j hx hy).trans hp,by omega,hS.swap fk hy hx (by show lv.getD x 0<lv.getD y 0;rw[kx,ky];unfold d4f at bA;split at bA<;>first|assumption|(exfalso;split at bA<;>omega))⟩;unfold b1d
      (simp+decide only[go_sem,a03,a00,a29,a3q,ij]<;>rfl)<;>rfl
     ·(repeat first|simp only[ww]|(apply xa;simp+decide only[go_sem,c0,hj,gx,pD,pC,hx,hy,be,ag,bA,aj];rfl;kernel_rfl))
      refine a2e (d0.length-(i+1)) (by omega) ⟨_,_,?_,i+1,data,rfl,by omega,rfl,rfl,hp,hS.stop (.inr ⟨y,x,hy,hx,by show lv.getD y 0≤lv.getD x 0;rw[kx,ky];unfold d4f at bA;split at bA<;>omega⟩)⟩;unfold b1d
      (simp+decide only[go_sem,a03,a00,a29,a3q,hw]<;>rfl)<;>rfl
  ·have c1:¬(i:Int)<d0.length:=by omega
   (repeat first|simp only[ww]|(apply xa;simp+decide only[go_sem,c1];rfl;kernel_rfl))
   refine b6p (vs:=[]) (r:=(_,[_,_])) (by simp+decide only[go_sem]) ?_ ⟨data,hp,λp q x y h1 h2=>hS p q x y h1 (by have:=hp.length_eq;omega),rfl⟩;simp+decide only[go_sem,a3q]<;>rfl
def d0c(b:Nat):AV:=.func (.func 103) [] [.ptr b 0 0]
theorem a2x(l:List Nat):FlatR (l.map a0s):=FlatR.map λ_=>rfl
theorem b3p(lv d0:List Nat)(hl:d0.length≤1000)(hd:∀v∈d0,v<lv.length):∃data:List Nat,data.Perm d0∧Srt lv data∧
 a09 L.env false (sem L.env Mf) (.func (.func 193) [] []) [.slice 0 0 d0.length (some d0.length),.int .i64 0,.int .i64 d0.length,b1d] [some (.row 1 (d0.map a0s)),some (lvO lv)]=some (.tuple [],[some (.row 1 (data.map a0s)),some (lvO lv)],[0,1]):=by
 obtain⟨r,⟨data,hp,hS,rfl⟩,h⟩:=b88 lv d0 hl hd;refine⟨data,hp,hS,?_⟩;exact b38 (a:=0) (b:=1) (fs:=[]) (cs:=[]) (ar:=[.slice 0 0 d0.length (some d0.length),.int .i64 0,.int .i64 d0.length,b1d]) (H:=[some (.row 1 (d0.map a0s)),some (lvO lv)]) (by kernel_rfl) (by kernel_rfl) rfl (by decide) rfl rfl (a0j (a2x d0)) (a0j (a3s lv)) (FlatO.row (a2x d0)) (FlatO.row (a3s lv)) rfl rfl h (FlatO.row (a2x data)) (FlatO.row (a3s lv)) rfl
theorem c5s(lv d0:List Nat)(hl:d0.length≤19)(hd:∀v∈d0,v<lv.length):∃r:AV×a02,(∃data:List Nat,data.Perm d0∧Srt lv data∧r=(.tuple [],[some (.row 1 (data.map a0s)),some (lvO lv)]))∧
 sem L.env Mf 146 [.slice 0 0 d0.length (some d0.length),.int .i64 d0.length,b1d] [some (.row 1 (d0.map a0s)),some (lvO lv)]=some r:=by
 obtain⟨data,hp,hS,hc⟩:=b3p lv d0 (by omega) hd;have c1:¬(20:Int)≤d0.length:=by omega
 have c2:¬(20:Int)<d0.length:=by omega
 unfold b1d at hc⊢;simp only[lvO]at hc⊢
 (refine svE Tryz.f146 ?_;simp only[Tryz.f146,gS])
 (repeat first|simp only[ww]|(apply xa;simp+decide only[go_sem,c1];rfl;kernel_rfl))
 refine a0m (σ:=Nat) kp146_0 (λi=>[(0,.slice 0 0 d0.length (some d0.length)),(1,.int .i64 d0.length),(2,b1d),(6,.int .i64 20),(7,.int .i64 0),(8,.int .i64 20)])
  (λi=>[some (.row 1 (d0.map a0s)),some (.row 1 [[.islice (lv.map a0s) (some lv.length)]])]) (λi=>0) (λi=>True) 0 ?_ trivial ?_
 ·unfold b1d
  (simp+decide only[go_sem,a03,a00,a29,a3q]<;>rfl)<;>rfl
 ·intro i _;unfold b1d
  (repeat first|simp only[ww]|(apply xa;simp+decide only[go_sem,c1,hc];rfl;kernel_rfl))
  refine a0m (σ:=Nat) kp146_2 (λi=>[(0,.slice 0 0 d0.length (some d0.length)),(1,.int .i64 d0.length),(2,b1d),(6,.int .i64 20)])
   (λi=>[some (.row 1 (data.map a0s)),some (.row 1 [[.islice (lv.map a0s) (some lv.length)]])]) (λi=>0) (λi=>True) 0 ?_ trivial ?_
  ·unfold b1d
   (simp+decide only[go_sem,a03,a00,a29,a3q]<;>rfl)<;>rfl
  ·intro i _;unfold b1d
   (repeat first|simp only[ww]|(apply xa;simp+decide only[go_sem,c2];rfl;kernel_rfl))
   refine b6p (vs:=[]) (r:=(_,[_,_])) (by simp+decide only[go_sem]) ?_ ⟨data,hp,hS,rfl⟩;simp+decide only[go_sem,a3q]<;>rfl
theorem b5r(lv d0:List Nat)(hl:d0.length≤19)(hd:∀v∈d0,v<lv.length):∃r:AV×a02,(∃data:List Nat,data.Perm d0∧Srt lv data∧r=(.tuple [],[some (.row 1 (data.map a0s)),some (lvO lv)]))∧
 sem L.env Mf 102 [.slice 0 0 d0.length (some d0.length),b1d] [some (.row 1 (d0.map a0s)),some (lvO lv)]=some r:=by
 obtain⟨r,⟨data,hp,hS,rfl⟩,h⟩:=c5s lv d0 hl hd;have hc:=b38 (E:=L.env) (ah:=false) (call:=sem L.env Mf) (g:=146) (a:=0) (b:=1) (fs:=[]) (cs:=[]) (ar:=[.slice 0 0 d0.length (some d0.length),.int .i64 d0.length,b1d]) (H:=[some (.row 1 (d0.map a0s)),some (lvO lv)]) (v':=.tuple []) (by kernel_rfl) (by kernel_rfl) rfl (by decide) rfl rfl (a0j (a2x d0)) (a0j (a3s lv)) (FlatO.row (a2x d0)) (FlatO.row (a3s lv)) rfl rfl h (FlatO.row (a2x data)) (FlatO.row (a3s lv)) rfl;unfold b1d at hc⊢;simp only[lvO]at hc⊢
 (refine svE Tryz.f102 ?_;simp only[Tryz.f102,gS])
 (repeat first|simp only[ww]|(apply xa;simp+decide only[go_sem,hc];rfl;kernel_rfl))
 refine b6p (vs:=[]) (r:=(_,[_,_])) (by simp+decide only[go_sem]) ?_ ⟨data,hp,hS,rfl⟩;simp+decide only[go_sem,a3q]<;>rfl
theorem b1m(lv d0:List Nat)(hl:d0.length≤19)(hd:∀v∈d0,v<lv.length):∃data:List Nat,data.Perm d0∧Srt lv data∧∀(d:Bool) (H:a02) (a b:Nat),a≠b→a01 H a=some (.row 1 (d0.map a0s))→a01 H b=some (lvO lv)→
 a09 L.env d (sem L.env Mf) (.func (.func 102) [] []) [.slice a 0 d0.length (some d0.length),d0c b] H=some (.tuple [],(H.set a (some (.row 1 (data.map a0s)))).set b (some (lvO lv)),[a,b]):=by
 obtain⟨r,⟨data,hp,hS,rfl⟩,h⟩:=b5r lv d0 hl hd;refine⟨data,hp,hS,λd H a b cB ha hb=>?_⟩;exact b38 (a:=a) (b:=b) (fs:=[]) (cs:=[]) (ar:=[.slice a 0 d0.length (some d0.length),d0c b]) (H:=H) (by kernel_rfl) (by kernel_rfl) rfl cB ha hb (a0j (a2x d0)) (a0j (a3s lv)) (FlatO.row (a2x d0)) (FlatO.row (a3s lv)) rfl
  (by simp only[e5m,e4t,e4r,e5j,b9p,d0c,d0m,c63 cB];rfl) h (FlatO.row (a2x data)) (FlatO.row (a3s lv)) rfl
theorem d0v(c:Cir)(h:c.wf):∃r:AV×a02,(∃ord:List Nat,ord.Perm (List.range c.nodes.length)∧e1u c.nodes ord∧r=(.tuple [.islice (ord.map a0s) (some c.nodes.length),.int .i64 0],[]))∧sem L.env Mf 58 [.agg c.enc] []=some r:=by
 have hn:=h.len;obtain⟨lv,lB,sh,hR,hc⟩:=b2d c h;have hc:=hc false;have aN:c.nodes.length≤1000000000:=by omega
 obtain⟨data,hp,hS,hs⟩:=b1m lv (List.range c.nodes.length) (by simp;omega) (λv hv=>by rw[lB];simpa using hv);have hY:data.length=c.nodes.length:=by rw[hp.length_eq];simp
 rw[e7n]at hs;simp only[Cir.enc]at hc⊢
 (refine svE Tryz.f58 ?_;simp only[Tryz.f58,gS])
 (repeat first|simp only[ww]|(apply xa;simp+decide only[go_sem,hc,aN];rfl;kernel_rfl))
 refine a0m (σ:=Nat) kp58_0 (λi=>[(4,.ptr 0 0 0),(6,.slice 1 0 c.nodes.length (some c.nodes.length)),(21,.int .i64 c.nodes.length),(22,.int .i64 i)])
  (λi=>[some (lvO lv),some (.row 1 ((List.range i++List.replicate (c.nodes.length-i) 0).map a0s))]) (λi=>c.nodes.length-i) (λi=>i≤c.nodes.length) 0 ?_ (e5q _) ?_
 ·rw[lvO,lB]
  (simp+decide only[go_sem,a03,a00,e6h,a29,a3q,List.range_zero,e5m,Nat.sub_zero]<;>rfl)<;>rfl
 ·intro i hi;rw[lvO];by_cases ak:i<c.nodes.length
  ·have c1:(i:Int)<c.nodes.length:=by omega
   have hw:=wI1 (n:=i) (by omega);have dM:(List.range i++List.replicate (c.nodes.length-i) 0).length=c.nodes.length:=by simp;omega
   have hg:(List.range i++List.replicate (c.nodes.length-i) 0)[i]?=some 0:=by rw[e6p (by simp),e7n,Nat.sub_self,e85,e6q (by omega)]
   have aI:((List.range i++List.replicate (c.nodes.length-i) 0).map a0s).set i [AV.int .i64 i]=(List.range (i+1)++List.replicate (c.nodes.length-(i+1)) 0).map a0s:=by
    have e:c.nodes.length-i=(c.nodes.length-(i+1))+1:=by omega
    rw[e,e8s];rw[show [AV.int IntKind.i64 (i:Int)]=a0s i from rfl,←f09,List.set_append_right _ _ (by simp),f01,e4s];simp
   generalize hA:(List.range i++List.replicate (c.nodes.length-i) 0)=A at dM hg aI
   (repeat first|simp only[ww]|(apply xa;simp+decide only[go_sem,c1,ak,hw,dM,hg,aI];rfl;kernel_rfl))
   refine a28 (i+1) ?_ (by omega) (by omega)
   (simp+decide only[go_sem,a03,a00,a29,a3q]<;>rfl)<;>rfl
  ·obtain rfl:i=c.nodes.length:=by omega
   have c1:¬(c.nodes.length:Int)<c.nodes.length:=by omega
   rw[Nat.sub_self,List.replicate_zero,e4t];have pj:=hs false [some (lvO lv),some (.row 1 ((List.range c.nodes.length).map a0s))] 1 0 (by decide) rfl rfl;simp only[lvO,d0c]at pj
   (repeat first|simp only[ww]|(apply xa;simp+decide only[go_sem,c1,pj];rfl;kernel_rfl))
   refine a81 (vs:=[.slice 1 0 c.nodes.length (some c.nodes.length),.int .i64 0]) (r:=(_,[])) (by simp+decide only[go_sem]) ?_ ⟨data,hp,hR.topo hp hS.pairwise h.inAt,rfl⟩;show a1q false 0 (.tuple [.slice 1 0 c.nodes.length (some c.nodes.length),.int .i64 0]) _=_;rw[←hY];simp+decide only[go_sem,d6s]
theorem c3m(c:Cir)(h:c.wf):∃ord:List Nat,ord.Perm (List.range c.nodes.length)∧e1u c.nodes ord∧∀(d:Bool) (H:a02),a09 L.env d (sem L.env Mf) (.func (.func 58) [] []) [.agg c.enc] H=some (.tuple [.islice (ord.map a0s) (some c.nodes.length),.int .i64 0],H,[]):=by obtain⟨r,⟨ord,h1,h2,rfl⟩,h3⟩:=d0v c h;exact⟨ord,h1,h2,λd H=>a04 (by kernel_rfl) (by kernel_rfl) rfl (a4c c) h3 rfl⟩
/- dependence, by the statements -/
/- the statements' own check of a bridge -/
structure FX where
 model:Nat
 node:Nat
 pin:Nat
 other:Nat
 one:Bool
structure FX.ok(f:FX):Prop where
 model:f.model<256
 node:f.node<256
 pin:f.pin<256
 other:f.other<256
attribute [go_sem] Pat.enc
structure PatOk(nodes:List Nd)(p:Pat):Prop where
 ins:p.ins.length=(kinds nodes 0).length
 sts:p.sts.length=(kinds nodes 14).length
 inv:∀v∈p.ins,v≤3
 stv:∀v∈p.sts,v≤3
theorem a4a(nodes:List Nd)(k:Nat):(kinds nodes k).length≤nodes.length:=b2k _ _ _
theorem d2j(c:Cir)(h:c.wf)(k:Nat):sem L.env Mf 91 [.agg c.enc,.int .u8 k] []=some (.int .i64 (kinds c.nodes k).length,[]):=by
 have hn:=h.len;simp only[Cir.enc]
 (refine sv Tryz.f91 ?_;simp only[Tryz.f91,gS])
 (repeat first|simp only[ww]|(apply xa;simp+decide only[go_sem];rfl;kernel_rfl))
 refine a0m (σ:=Nat) kp91_0 (λi=>[(1,.int .u8 k),(2,.ptr 0 0 0),(5,.int .i64 (a2z c.nodes k i).length),(6,.int .i64 i)])
  (λi=>[some (.row 4 [[sl c.nc (c.nodes.map Nd.enc),sl c.mc (c.names.map a3a),.nilslice,sl c.oc (c.outs.map a0s)]])]) (λi=>c.nodes.length-i) (λi=>i≤c.nodes.length) 0 ?_ (e5q _) ?_
 ·have e:a2z c.nodes k 0=[]:=rfl
  (simp+decide only[go_sem,a03,a00,e,e5r]<;>rfl)
 ·intro i hi;by_cases ak:i<c.nodes.length
  ·obtain⟨x,hx⟩:∃x,c.nodes[i]?=some x:=⟨_,z9e ak⟩
   have c1:(i:Int)<c.nodes.length:=by omega
   have hw:=wI1 (n:=i) (by omega);have bf:=b2k c.nodes k i;have fg:=wI1 (n:=(a2z c.nodes k i).length) (by omega);have hs:=b2j c.nodes k i;rw[a1v hx]at hs;by_cases hk:x.kind=k
   ·have ck:decide ((x.kind:Int)=k)=true:=e7o (by omega);rw[e6q hk]at hs;have hl:(a2z c.nodes k (i+1)).length=(a2z c.nodes k i).length+1:=by rw[hs];simp
    (repeat first|simp only[ww]|(apply xa;simp+decide only[go_sem,c1,ak,hx,hw,fg,ck];rfl;kernel_rfl))
    refine a28 (i+1) ?_ (by omega) (by omega)
    (simp+decide only[go_sem,a03,a00,hl]<;>rfl)
   ·have ck:¬(x.kind:Int)=k:=by omega
    rw[e5s hk]at hs
    (repeat first|simp only[ww]|(apply xa;simp+decide only[go_sem,c1,ak,hx,hw,fg,ck];rfl;kernel_rfl))
    refine a28 (i+1) ?_ (by omega) (by omega)
    (simp+decide only[go_sem,a03,a00,hs]<;>rfl)
  ·obtain rfl:i=c.nodes.length:=by omega
   have c1:¬(c.nodes.length:Int)<c.nodes.length:=by omega
   (repeat first|simp only[ww]|(apply xa;simp+decide only[go_sem,c1];rfl;kernel_rfl))
   (apply fqb;simp+decide only[go_sem,kinds]<;>rfl)
theorem b58{d:Bool}(H:a02)(c:Cir)(h:c.wf){n:Int}(k:Nat)(hk:n=k):a09 L.env d (sem L.env Mf) (.func (.func 91) [] []) [.agg c.enc,.int .u8 n] H=some (.int .i64 (kinds c.nodes k).length,H,[]):=by subst hk;exact a04 (by kernel_rfl) (by kernel_rfl) rfl (by simp only[a06,a0z,Cir.enc,go_sem]) (d2j c h k) rfl
theorem c26(l:List Nat):(l.map u8R).flatMap a0a=[]:=a0c (FlatR.map λ_=>rfl)
theorem d0k(π:Nat→Option Nat)(l:List Nat):(l.map u8R).map (λr=>r.map (ren π))=l.map u8R:=a08 π (FlatR.map λ_=>rfl)
theorem e5d{m:Nat}{d:AV→Option AV}(l:List Nat):a8i m d (l.map u8R)=some (l.map u8R):=a13 m d (FlatR.map λ_=>rfl)
theorem d07(r:Rep)(l:List Nat)(hv:∀v∈l,v<256)(hl:l.length<9223372036854775808)(n cE:Nat)(hn:n≤100000)(hm:0<cE)(nO:cE≤4)(gY:3≤cE):∃r':AV×a02,(∃out:List Nat,out.length=n∧(∀v∈out,v≤3)∧r'=(sl none (out.map u8R),[]))∧sem L.env Mf 90 [sl r (l.map u8R),.int .i64 n,.int .u8 cE] []=some r':=by
 (refine svE Tryz.f90 ?_;simp only[Tryz.f90,gS])
 (repeat first|simp only[ww]|(apply xa;simp+decide only[go_sem];rfl;kernel_rfl))
 refine a5m kp90_0 (λq F H=>∃out:List Nat,q=n-out.length∧out.length≤n∧(∀v∈out,v≤3)∧F=[(0,sl r (l.map u8R)),(1,.int .i64 n),(2,.int .u8 cE),(7,grV 0 (out.map u8R)),(8,.int .i64 out.length)]∧H=grH 1 (out.map u8R)) (n-0) ?_ ?_
 ·refine⟨_,_,?_,[],rfl,e5q _,by simp,rfl,rfl⟩
  (simp+decide only[go_sem,a03,a00,e5j,a17,a18]<;>rfl)<;>rfl
 ·rintro q F H ⟨out,rfl,ho,hov,rfl,rfl⟩
  by_cases ak:out.length<n
  ·have c1:(out.length:Int)<n:=by omega
   have hw:=wI1 (n:=out.length) (by omega);have aN:out.length+1≤1000000000:=by omega
   by_cases bf:l=[]
   ·subst bf;cases out with
    |nil=>
     simp only[e5r]at hw c1
     (repeat first|simp only[ww]|(apply xa;simp+decide only[go_sem,c1,hw,e5j,e5r,e5j,a17,a18,e5r];rfl;kernel_rfl))
     refine a2e (n-1) (by simp at ak⊢;omega) ⟨_,_,?_,[2],rfl,by simp at ak⊢;omega,by intro u hu;simp only[e6z]at hu;subst hu;omega,rfl,rfl⟩
     (simp+decide only[go_sem,a03,a00,e4r,e5j,a0k,a0l,e5r,e5l,c26,d0k]<;>rfl)<;>rfl
    |cons a r2=>
     simp only[e5l]at aN hw c1 ak
     (repeat first|simp only[ww]|(apply xa;simp+decide only[go_sem,c1,hw,e5j,e5r,e4r,a0k,a0l,aN,e5l];rfl;kernel_rfl))
     refine a2e (n-(r2.length+1+1)) (by simp;omega) ⟨_,_,?_,(a::r2)++[2],by simp,by simp;omega,by intro u hu;rw[e7h]at hu;rcases hu with hu|hu;exact hov u hu;simp only[e6z]at hu;subst hu;omega,rfl,rfl⟩
     (simp+decide only[go_sem,a03,a00,e7p,e4r,e5j,a0k,a0l,e5l,c26,d0k]<;>rfl)<;>rfl
   ·have ed:0<l.length:=List.length_pos_iff.2 bf;have cl:¬(l.length:Int)=0:=by omega
    have da:=Nat.mod_lt out.length ed;obtain⟨u,hu⟩:∃u,l[out.length%l.length]?=some u:=⟨_,z9e da⟩
    have sb:=hv u (e12 hu);have e5:=Nat.mod_lt u hm;have cm:¬(cE:Int)=0:=by omega
    have w1:=wI (n:=out.length%l.length) (by omega);have w2:=wB (n:=u%cE) (by omega);cases out with
    |nil=>
     simp only[e5r]at da hu w1 hw c1
     (repeat first|simp only[ww]|(apply xa;simp+decide only[go_sem,c1,hw,cl,da,hu,cm,w1,w2,e5j,a17,a18,e5r];rfl;kernel_rfl))
     refine a2e (n-1) (by simp at ak⊢;omega) ⟨_,_,?_,[u%cE],rfl,by simp at ak⊢;omega,by intro u hu;simp only[e6z]at hu;subst hu;omega,rfl,rfl⟩
     (simp+decide only[go_sem,a03,a00,e4r,e5j,a0k,a0l,e5r,e5l,c26,d0k]<;>rfl)<;>rfl
    |cons a r2=>
     simp only[e5l]at aN hw c1 ak da hu w1
     (repeat first|simp only[ww]|(apply xa;simp+decide only[go_sem,c1,hw,cl,da,hu,cm,w1,w2,e4r,a0k,a0l,aN,e5l];rfl;kernel_rfl))
     refine a2e (n-(r2.length+1+1)) (by simp;omega) ⟨_,_,?_,(a::r2)++[u%cE],by simp,by simp;omega,by intro u hu;rw[e7h]at hu;rcases hu with hu|hu;exact hov u hu;simp only[e6z]at hu;subst hu;omega,rfl,rfl⟩
     (simp+decide only[go_sem,a03,a00,e7p,e4r,e5j,a0k,a0l,e5l,c26,d0k]<;>rfl)<;>rfl
  ·obtain rfl:n=out.length:=by omega
   have c1:¬(out.length:Int)<out.length:=by omega
   cases out with
   |nil=>
    (repeat first|simp only[ww]|(apply xa;simp+decide only[go_sem,c1,e5j,a17,a18];rfl;kernel_rfl))
    refine a81 (vs:=[.nilslice]) (r:=(.nilslice,[])) (by simp+decide only[go_sem]) ?_ ⟨[],rfl,by simp,rfl⟩;simp+decide only[go_sem]
   |cons a r2=>
    simp only[e5l]at c1
    (repeat first|simp only[ww]|(apply xa;simp+decide only[go_sem,c1,e4r,a0k,a0l,e5l];rfl;kernel_rfl))
    refine a81 (vs:=[.slice 0 0 (r2.length+1) none]) (r:=(sl none ((a::r2).map u8R),[])) (by simp+decide only[go_sem]) ?_ ⟨a::r2,rfl,hov,rfl⟩;show a1q false 0 (.slice 0 0 (r2.length+1) none) _=_;simp+decide only[go_sem,e5d,e4r,b0e]
set_option maxHeartbeats 200000000
theorem b45(r:Rep)(l:List Nat)(hv:∀v∈l,v<256)(hl:l.length<9223372036854775808)(n cE:Nat)(hn:n≤100000)(hm:0<cE)(nO:cE≤4)(gY:3≤cE):∃out:List Nat,out.length=n∧(∀v∈out,v≤3)∧∀(d:Bool) (H:a02) (k:Int),k=cE→a09 L.env d (sem L.env Mf) (.func (.func 90) [] []) [sl r (l.map u8R),.int .i64 n,.int .u8 k] H=some (sl none (out.map u8R),H,[]):=by obtain⟨r',⟨out,h1,h2,rfl⟩,h3⟩:=d07 r l hv hl n cE hn hm nO gY;refine⟨out,h1,h2,λd H k hk=>?_⟩;subst hk;exact a04 (by kernel_rfl) (by kernel_rfl) rfl (by simp only[e5m,e4t,a06,go_sem]) h3 (a12 _ _)
structure PxOk(p:Pat):Prop where
 inv:∀v∈p.ins,v<256
 stv:∀v∈p.sts,v<256
 inl:p.ins.length<9223372036854775808
 stl:p.sts.length<9223372036854775808
theorem e03(c:Cir)(h:c.wf)(p:Pat)(hp:PxOk p):∃r:AV×a02,(∃q,PatOk c.nodes q∧r=(.agg q.enc,[]))∧sem L.env Mf 43 [.agg p.enc,.agg c.enc] []=some r:=by
 have hn:=h.len;have hk0:=a4a c.nodes 0;have jK:=a4a c.nodes 14;have kv:=λH=>b58 (d:=true) H c h (n:=0) 0 rfl;have lX:=λH=>b58 (d:=true) H c h (n:=14) 14 rfl;obtain⟨a,a1,a2,ha⟩:=b45 p.ic p.ins hp.inv hp.inl (kinds c.nodes 0).length 4 (by omega) (by omega) (by omega) (by omega);obtain⟨b,b1,b2,hb⟩:=b45 p.sc p.sts hp.stv hp.stl (kinds c.nodes 14).length 3 (by omega) (by omega) (by omega) (by omega);have ha:=λH=>ha true H 4 rfl;have hb:=λH=>hb true H 3 rfl;simp only[Cir.enc]at kv lX;simp only[Cir.enc,Pat.enc]
 (refine svE Tryz.f43 ?_;simp only[Tryz.f43,gS])
 (repeat first|simp only[ww]|(apply xa;simp+decide only[go_sem,kv,lX,ha,hb];rfl;kernel_rfl))
 refine a81 (vs:=[.agg (Pat.enc ⟨none,a,none,b⟩)]) (r:=(.agg (Pat.enc ⟨none,a,none,b⟩),[])) (by simp+decide only[go_sem]<;>rfl) ?_ ⟨_,⟨a1,b1,a2,b2⟩,rfl⟩;simp+decide only[go_sem]
theorem d0r(c:Cir)(h:c.wf)(p:Pat)(hp:PxOk p):∃q,PatOk c.nodes q∧∀(d:Bool) (H:a02),a09 L.env d (sem L.env Mf) (.func (.func 43) [] []) [.agg p.enc,.agg c.enc] H=some (.agg q.enc,H,[]):=by obtain⟨r,⟨q,h1,rfl⟩,h2⟩:=e03 c h p hp;exact⟨q,h1,λd H=>a04 (by kernel_rfl) (by kernel_rfl) rfl (by simp only[a06,a0z,Cir.enc,Pat.enc,go_sem]) h2 (by simp only[a0z,Pat.enc,go_sem])⟩
/- patterns that fit -/
theorem d3g(v:Nat)(hv:v≤3):sem L.env Mf 105 [.int .u8 v] []=some (.bool false,[]):=by
 have c1:¬(3:Int)<v:=by omega
 (refine sv Tryz.f105 ?_;simp only[Tryz.f105,gS])
 (repeat first|simp only[ww]|(apply xa;simp+decide only[go_sem,c1];rfl;kernel_rfl))
 (apply fqb;simp+decide only[go_sem]<;>rfl)
theorem c4u{d:Bool}(H:a02)(v:Nat)(hv:v≤3):a09 L.env d (sem L.env Mf) (.func (.func 105) [] []) [.int .u8 v] H=some (.bool false,H,[]):=a04 (by kernel_rfl) (by kernel_rfl) rfl rfl (d3g v hv) rfl
def a86:AV:=.func (.func 105) [] []
theorem c7o(r:Rep)(l:List Nat)(hl:l.length<1000000)(hc:∀v∈l,v≤3) :
 sem L.env Mf 139 [sl r (l.map u8R),a86] []=some (.int .i64 (-1),[]):=by
 unfold a86
 (refine sv Tryz.f139 ?_;simp only[Tryz.f139,gS])
 (repeat first|simp only[ww]|(apply xa;simp+decide only[go_sem];rfl;kernel_rfl))
 refine a0m (σ:=Nat) kp139_0 (λi=>[(0,sl r (l.map u8R)),(1,a86),(7,.int .i64 l.length),(8,.int .i64 i)])
  (λ_=>[]) (λi=>l.length-i) (λi=>i≤l.length) 0 ?_ (e5q _) ?_
 ·unfold a86
  (simp+decide only[go_sem,a03,a00]<;>rfl)
 ·intro i hi;unfold a86;by_cases ak:i<l.length
  ·obtain⟨x,hx⟩:∃x,l[i]?=some x:=⟨_,z9e ak⟩
   have c1:(i:Int)<l.length:=by omega
   have hw:=wI1 (n:=i) (by omega);have fm:=λH=>c4u (d:=false) H x (hc x (e12 hx))
   (repeat first|simp only[ww]|(apply xa;simp+decide only[go_sem,c1,ak,hx,hw,fm];rfl;kernel_rfl))
   refine a28 (i+1) ?_ (by omega) (by omega)
   (simp+decide only[go_sem,a03,a00,a86]<;>rfl)
  ·obtain rfl:i=l.length:=by omega
   have c1:¬(l.length:Int)<l.length:=by omega
   (repeat first|simp only[ww]|(apply xa;simp+decide only[go_sem,c1];rfl;kernel_rfl))
   (apply fqb;simp+decide only[go_sem]<;>rfl)
theorem c4c(r:Rep)(l:List Nat)(hl:l.length<1000000)(hc:∀v∈l,v≤3) :
 sem L.env Mf 92 [sl r (l.map u8R),a86] []=some (.bool false,[]):=by
 have h:=λH=>a04 (E:=L.env) (ah:=false) (call:=sem L.env Mf) (g:=139) (fs:=[]) (cs:=[]) (ar:=[sl r (l.map u8R),a86]) (H:=H) (by kernel_rfl) (by kernel_rfl) rfl (by simp only[e5m,e4t,a06,a86,go_sem]) (c7o r l hl hc) rfl;have c1:¬(0:Int)≤ -1:=by omega
 unfold a86 at h⊢
 (refine sv Tryz.f92 ?_;simp only[Tryz.f92,gS])
 (repeat first|simp only[ww]|(apply xa;simp+decide only[go_sem,h,c1];rfl;kernel_rfl))
 (apply fqb;simp+decide only[go_sem]<;>rfl)
theorem b59{d:Bool}(H:a02)(r:Rep)(l:List Nat)(hl:l.length<1000000)(hc:∀v∈l,v≤3):a09 L.env d (sem L.env Mf) (.func (.func 92) [] []) [sl r (l.map u8R),.func (.func 105) [] []] H=some (.bool false,H,[]):=a04 (by kernel_rfl) (by kernel_rfl) rfl (by simp only[e5m,e4t,a06,go_sem]) (c4c r l hl hc) rfl
theorem d6g(c:Cir)(h:c.wf):kinds c.nodes 15=[]:=by
 unfold kinds a2z;rw[List.filter_eq_nil_iff];intro j hj;have hj:j<c.nodes.length:=by simpa using hj
 obtain⟨x,hx⟩:∃x,c.nodes[j]?=some x:=⟨_,z9e hj⟩
 have:=h.kind x (e12 hx);rw[a1v hx];simp;omega
theorem d6w(c:Cir)(h:c.wf)(p:Pat)(hp:PatOk c.nodes p):sem L.env Mf 59 [.agg c.enc,.agg p.enc] []=some (.int .i64 0,[]):=by
 have hn:=h.len;have hk0:=a4a c.nodes 0;have jK:=a4a c.nodes 14;have l1:=hp.ins;have l2:=hp.sts;have ho:=λX Y=>b14 (d:=false) (H:=[X,Y,some (.row 1 [[.int .u8 15]])]) (b:=2) c (k:=15) rfl (by omega) rfl;rw[d6g c h,c1v]at ho;have hi:=λH=>a40 (d:=true) H c (by omega);have hs:=λH=>a66 (d:=true) H c (by omega);obtain⟨r0,e0⟩:=a4k (kinds c.nodes 0);obtain⟨r1,e1⟩:=a4k (kinds c.nodes 14);rw[e0]at hi;rw[e1]at hs;have fV:=λH=>b59 (d:=false) H p.ic p.ins (by omega) hp.inv;have fJ:=λH=>b59 (d:=false) H p.sc p.sts (by omega) hp.stv;simp only[Cir.enc]at ho hi hs;simp only[Cir.enc,Pat.enc]
 (refine sv Tryz.f59 ?_;simp only[Tryz.f59,gS])
 (repeat first|simp only[ww]|(apply xa;simp+decide only[go_sem,ho,hi,hs,fV,fJ,l1,l2];rfl;kernel_rfl))
 (apply fqb;simp+decide only[go_sem]<;>rfl)
end Go.UInst
