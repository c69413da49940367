/- Part of a proof. No condition. -/
import Derived.Test.YtbmkmaobejlkgaaGreatDoorQGa
import Derived.Test.YtbmkmaobejlkgaaGreatDoorPcB
import Derived.Test.YtbmkmaobejlkgaaGreatDoorAxD
set_option linter.unusedSimpArgs false
set_option linter.unusedVariables false
namespace Go.QInst
open Go.Proofs Go.Ax Go.Pc
set_option maxRecDepth 100000
theorem d5m(k:Nat)(hk:k<16):sem L.env Mf 158 [.int .u8 k] []=some (.tuple [.int .i64 (a25 k:Nat),.int .i64 (a26 k:Nat)],[]):=by
 have w:=wI (n:=k) (by omega);have c:¬(16:Int)≤k:=by omega
 have h:k=0∨k=1∨k=2∨k=3∨k=4∨k=5∨k=6∨k=7∨k=8∨k=9∨k=10∨k=11∨k=12∨k=13∨k=14∨k=15:=by omega
 rcases h with rfl|rfl|rfl|rfl|rfl|rfl|rfl|rfl|rfl|rfl|rfl|rfl|rfl|rfl|rfl|rfl
 all_goals
  (refine sv Tryz.f158 ?_;simp only[Tryz.f158,gS])
  (repeat first|simp only[ww]|(apply xa;simp+decide only[go_sem,w,c];rfl;kernel_rfl))
  (apply fqb;simp+decide only[go_sem]<;>rfl)
theorem b6r{d:Bool}(H:a02)(k:Nat)(hk:k<16):a09 L.env d (sem L.env Mf) (.func (.func 158) [] []) [.int .u8 k] H=some (.tuple [.int .i64 (a25 k:Nat),.int .i64 (a26 k:Nat)],H,[]):=a04 (by kernel_rfl) (by kernel_rfl) rfl rfl (d5m k hk) rfl
theorem e1d(k:Nat)(hk:k<256):sem L.env Mf 92 [.int .u8 k] []=some (.bool (a1l k),[]):=by
 by_cases h1:1≤k
 ·have c1:(1:Int)≤k:=by omega
  by_cases h2:k≤13
  ·have c2:(k:Int)≤13:=by omega
   rw[show a1l k=true by simp[a1l,h1,h2]]
   (refine sv Tryz.f92 ?_;simp only[Tryz.f92,gS])
   (repeat first|simp only[ww]|(apply xa;simp+decide only[go_sem,c1,c2];rfl;kernel_rfl))
   (apply fqb;simp+decide only[go_sem]<;>rfl)
  ·have c2:¬(k:Int)≤13:=by omega
   rw[show a1l k=false by simp[a1l,h2]]
   (refine sv Tryz.f92 ?_;simp only[Tryz.f92,gS])
   (repeat first|simp only[ww]|(apply xa;simp+decide only[go_sem,c1,c2];rfl;kernel_rfl))
   (apply fqb;simp+decide only[go_sem]<;>rfl)
 ·have c1:¬(1:Int)≤k:=by omega
  rw[show a1l k=false by simp[a1l,h1]]
  (refine sv Tryz.f92 ?_;simp only[Tryz.f92,gS])
  (repeat first|simp only[ww]|(apply xa;simp+decide only[go_sem,c1];rfl;kernel_rfl))
  (apply fqb;simp+decide only[go_sem]<;>rfl)
theorem e0l(k v:Nat):sem L.env Mf 94 [.slice 0 0 1 (some 1),.int .u8 v] [some (.row 1 [[.int .u8 k]])]=some (.int .i64 (if v=k then 0 else -1),[some (.row 1 [[.int .u8 k]])]):=by
 (refine sv Tryz.f94 ?_;simp only[Tryz.f94,gS])
 (repeat first|simp only[ww]|(apply xa;simp+decide only[go_sem];rfl;kernel_rfl))
 refine a1j (σ:=Nat) kp94_0 (λi=>[(0,.slice 0 0 1 (some 1)),(1,.int .u8 v),(7,.int .i64 1),(8,.int .i64 i)])
  (λ_=>[some (.row 1 [[.int .u8 k]])]) (λi=>1-i) (λi=>i≤1∧(i=1→v≠k)) 0 ?_ (by simp) ?_
 ·(simp+decide only[go_sem,a03,a00]<;>rfl)
 ·rintro i ⟨hi,au⟩
  have hh:i=0∨i=1:=by omega
  rcases hh with rfl|rfl
  ·by_cases h:v=k
   ·subst h
    (repeat first|simp only[ww]|(apply xa;simp+decide only[go_sem,f1r];rfl;kernel_rfl))
    (apply fqb;simp+decide only[go_sem,f1r]<;>rfl)
   ·have c:¬(v:Int)=k:=by omega
    (repeat first|simp only[ww]|(apply xa;simp+decide only[go_sem,c];rfl;kernel_rfl))
    refine a4g 1 ?_ (by omega) (by simp[h])
    (simp+decide only[go_sem,a03,a00]<;>rfl)
  ·have h:=au rfl;have c:¬(v:Int)=k:=by omega
   rw[f0j h]
   (repeat first|simp only[ww]|(apply xa;simp+decide only[go_sem,c];rfl;kernel_rfl))
   (apply fqb;simp+decide only[go_sem]<;>rfl)
theorem d60(k v:Nat):sem L.env Mf 46 [.slice 0 0 1 (some 1),.int .u8 v] [some (.row 1 [[.int .u8 k]])]=some (.bool (decide (v=k)),[some (.row 1 [[.int .u8 k]])]):=by
 have hc:a09 L.env false (sem L.env Mf) (.func (.func 94) [] []) [.slice 0 0 1 (some 1),.int .u8 v] [some (.row 1 [[.int .u8 k]])]=some (.int .i64 (if v=k then 0 else -1),[some (.row 1 [[.int .u8 k]])],[0]):=a1q (by kernel_rfl) (by kernel_rfl) rfl rfl rfl (FlatO.row (FlatR.cons rfl FlatR.nil)) rfl rfl (e0l k v) rfl;by_cases h:v=k
 ·rw[f1r h]at hc
  (refine sv Tryz.f46 ?_;simp only[Tryz.f46,gS])
  (repeat first|simp only[ww]|(apply xa;simp+decide only[go_sem,hc];rfl;kernel_rfl))
  (apply fqb;simp+decide only[go_sem,h]<;>rfl)
 ·rw[f0j h]at hc
  (refine sv Tryz.f46 ?_;simp only[Tryz.f46,gS])
  (repeat first|simp only[ww]|(apply xa;simp+decide only[go_sem,hc];rfl;kernel_rfl))
  (apply fqb;simp+decide only[go_sem,h]<;>rfl)
theorem c6y{d:Bool}(k v:Nat)(X:a02):a09 L.env d (sem L.env Mf) (.func (.func 46) [] []) [.slice 0 0 1 (some 1),.int .u8 v] (some (.row 1 [[.int .u8 k]])::X)=some (.bool (decide (v=k)),some (.row 1 [[.int .u8 k]])::X,[0]):=a1q (by kernel_rfl) (by kernel_rfl) rfl rfl rfl (FlatO.row (FlatR.cons rfl FlatR.nil)) rfl rfl (d60 k v) rfl
def a3b(nodes:List Nd)(k i:Nat):List Nat:=(List.range i).filter λj=>decide (a0l nodes j=k)
theorem b3q(nodes:List Nd)(k i:Nat):a3b nodes k (i+1)=if a0l nodes i=k then a3b nodes k i++[i]else a3b nodes k i:=by unfold a3b;rw[List.range_succ,List.filter_append];by_cases h:a0l nodes i=k<;>simp[h]
theorem b3r(nodes:List Nd)(k i:Nat):(a3b nodes k i).length≤i:=f7j (List.length_filter_le _ _) (by simp)
def kinds(nodes:List Nd)(k:Nat):List Nat:=a3b nodes k nodes.length
def b55(l:List Nat):AV:=sl (match l with|[]=>none|a::r=>some (some (r.length+1))) (l.map a0d)
theorem c4c:b55 [] = .nilslice:=by rfl
theorem c0j(a:Nat)(r:List Nat):b55 (a::r) = .islice ((a::r).map a0d) (some (r.length+1)):=by rfl
theorem a15{nodes:List Nd}{i:Nat}{x:Nd}(h:nodes[i]?=some x):a0l nodes i=x.kind:=by simp[a0l,h]
theorem a1u(l:List Nat):(l.map a0d).flatMap a08=[]:=a0e (FlatR.map λ_=>rfl)
theorem a32(π:Nat→Option Nat)(l:List Nat):(l.map a0d).map (λr=>r.map (ren π))=l.map a0d:=a0b π (FlatR.map λ_=>rfl)
theorem c4q(l:List Nat):FlatR (l.map a0d):=FlatR.map λ_=>rfl
theorem d5g{m:Nat}{d:AV→Option AV}(l:List Nat):a8m m d (l.map a0d)=some (l.map a0d):=a1g m d (FlatR.map λ_=>rfl)
theorem c50:sem L.env Mf 35 [.nilslice] []=some (.nilslice,[]):=by
 (refine sv Tryz.f35 ?_;simp only[Tryz.f35,gS])
 (repeat first|simp only[ww]|(apply xa;simp+decide only[go_sem];rfl;kernel_rfl))
 (apply fqb;simp+decide only[go_sem]<;>rfl)
theorem e1f(n:Nat)(rows:List (List AV))(hf:FlatR rows):sem L.env Mf 35 [.slice 0 0 n none] [some (.row 1 rows)]=some (.slice 0 0 n (some n),[some (.row 1 rows)]):=by
 have h1:=λπ=>a0b π hf
 (refine sv Tryz.f35 ?_;simp only[Tryz.f35,gS])
 (repeat first|simp only[ww]|(apply xa;simp+decide only[go_sem];rfl;kernel_rfl))
 (apply fqb;simp+decide only[go_sem,h1]<;>rfl)
theorem c16{d:Bool}{H:a02}{b n:Nat}{rows:List (List AV)}(hf:FlatR rows)(hb:a01 H b=some (.row 1 rows)):a09 L.env d (sem L.env Mf) (.func (.func 35) [] []) [.slice b 0 n none] H=some (.slice b 0 n (some n),H,[b]):=by have h:=a3k (E:=L.env) (ah:=d) (call:=sem L.env Mf) (g:=35) (fs:=[]) (cs:=[]) (ar:=[.slice b 0 n none]) (H:=H) (b:=b) (by kernel_rfl) (by kernel_rfl) rfl hb (a0f hf) (FlatO.row hf) rfl (ap:=[AV.slice 0 0 n none]) (by simp only[e9q,e9n,e12,e9p,a1t]) (e1f n rows hf) (FlatO.row hf) (a4t b 0 _ n _);rw[a5c hb]at h;exact h
theorem e4t(c:Cir)(k:Nat)(hl:c.nodes.length<1000000):sem L.env Mf 18 [.agg c.enc,.slice 0 0 1 (some 1)] [some (.row 1 [[.int .u8 k]])]=some (b55 (kinds c.nodes k),[some (.row 1 [[.int .u8 k]])]):=by
 have bG:=λv X=>c6y (d:=false) k v X
 (refine sv Tryz.f18 ?_;simp only[Tryz.f18,gS])
 (repeat first|simp only[ww]|(apply xa;simp+decide only[go_sem,Cir.enc];rfl;kernel_rfl))
 refine a1j (σ:=Nat) kp18_0 (λi=>[(1,.slice 0 0 1 (some 1)),(5,grV 1 ((a3b c.nodes k i).map a0d)),(9,sl c.nc (c.nodes.map Nd.enc)),(10,.int .i64 c.nodes.length),(11,.int .i64 i)])
  (λi=>some (.row 1 [[.int .u8 k]])::grH 1 ((a3b c.nodes k i).map a0d)) (λi=>c.nodes.length-i) (λi=>i≤c.nodes.length) 0 ?_ (f0h _) ?_
 ·have e:a3b c.nodes k 0=[]:=rfl
  (simp+decide only[go_sem,a03,a00,e,e9p,a0q,a0r]<;>rfl)
 ·intro i hi;by_cases ag:i<c.nodes.length
  ·obtain⟨x,hx⟩:∃x,c.nodes[i]?=some x:=⟨_,z9e ag⟩
   have c1:(i:Int)<c.nodes.length:=by omega
   have hw:=wI1 (n:=i) (by omega);have hs:=b3q c.nodes k i;rw[a15 hx]at hs;have bd:=b3r c.nodes k i;have aO:(a3b c.nodes k i).length+1≤1000000000:=by omega
   by_cases hk:x.kind=k
   ·rw[f1r hk]at hs;generalize a3b c.nodes k i=l at hs bd aO;cases l with
    |nil=>
     (repeat first|simp only[ww]|(apply xa;simp+decide only[go_sem,c1,ag,hx,hw,bG,hk,e9p,a0q,a0r];rfl;kernel_rfl))
     refine a4g (i+1) ?_ (by omega) (by omega);rw[hs]
     (simp+decide only[go_sem,a03,a00,e9p,e9q,e12,a06,a07,f0g]<;>rfl)
    |cons a r=>
     simp only[e9m]at aO
     (repeat first|simp only[ww]|(apply xa;simp+decide only[go_sem,c1,ag,hx,hw,bG,hk,e12,a06,a07,aO,e9m];rfl;kernel_rfl))
     refine a4g (i+1) ?_ (by omega) (by omega);rw[hs]
     (simp+decide only[go_sem,a03,a00,f0k,e12,a06,a07,a1u,a32,e9m]<;>rfl)
   ·rw[f0j hk]at hs;have gP:¬(x.kind:Int)=k:=by omega
    generalize a3b c.nodes k i=l at hs bd aO;cases l with
    |nil=>
     (repeat first|simp only[ww]|(apply xa;simp+decide only[go_sem,c1,ag,hx,hw,bG,hk,e9p,a0q,a0r];rfl;kernel_rfl))
     refine a4g (i+1) ?_ (by omega) (by omega);rw[hs]
     (simp+decide only[go_sem,a03,a00,e9p,a0q,a0r]<;>rfl)
    |cons a r=>
     (repeat first|simp only[ww]|(apply xa;simp+decide only[go_sem,c1,ag,hx,hw,bG,hk,e12,a06,a07];rfl;kernel_rfl))
     refine a4g (i+1) ?_ (by omega) (by omega);rw[hs]
     (simp+decide only[go_sem,a03,a00,e12,a06,a07,a1u,a32]<;>rfl)
  ·obtain rfl:i=c.nodes.length:=by omega
   have c1:¬(c.nodes.length:Int)<c.nodes.length:=by omega
   unfold kinds;generalize a3b c.nodes k c.nodes.length=l;cases l with
   |nil=>
    have bL:=λH=>a04 (E:=L.env) (ah:=false) (call:=sem L.env Mf) (g:=35) (fs:=[]) (cs:=[]) (ar:=[.nilslice]) (H:=H) (by kernel_rfl) (by kernel_rfl) rfl rfl c50 rfl
    (repeat first|simp only[ww]|(apply xa;simp+decide only[go_sem,c1,e9p,a0q,a0r,bL];rfl;kernel_rfl))
    (apply fqb;simp+decide only[go_sem,c4c]<;>rfl)
   |cons a r=>
    have bL:=c16 (d:=false) (H:=[some (.row 1 [[.int .u8 k]]),some (.row 1 ((a::r).map a0d))]) (b:=1) (n:=r.length+1) (c4q _) rfl;simp only[e12,go_sem]at bL
    (repeat first|simp only[ww]|(apply xa;simp+decide only[go_sem,c1,e12,a06,a07,c11,bL];rfl;kernel_rfl))
    (apply fqb;simp+decide only[go_sem,c0j,e12,d5g,e9m]<;>rfl)
theorem d9h(π:Nat→Option Nat)(c:Cir):ren π (.agg c.enc) = .agg c.enc:=a0x π _ (by simp only[a1a,Cir.enc,go_sem])
theorem a5q(l:List Nat):refs (b55 l)=[]:=a33 _ _
theorem b26{d:Bool}{H:a02}{b:Nat}(c:Cir){k:Nat}{n:Int}(hn:n=k)(hl:c.nodes.length<1000000)(hb:a01 H b=some (.row 1 [[.int .u8 n]])) :
 a09 L.env d (sem L.env Mf) (.func (.func 18) [] []) [.agg c.enc,.slice b 0 1 (some 1)] H=some (b55 (kinds c.nodes k),H,[b]):=by
 subst hn;exact a1q (E:=L.env) (ah:=d) (call:=sem L.env Mf) (g:=18) (fs:=[]) (cs:=[]) (ar:=[.agg c.enc,.slice b 0 1 (some 1)]) (H:=H) (b:=b) (by kernel_rfl) (by kernel_rfl) rfl hb rfl (FlatO.row (FlatR.cons rfl FlatR.nil)) (by simp only[e9q,e9n,a0c,a1a,Cir.enc,go_sem]) (ap:=[.agg c.enc,.slice 0 0 1 (some 1)]) (by simp only[e9q,e9n,e12,e9p,a1t,d9h]) (e4t c k hl) (a5q _)
theorem a78(l:List Nat):∃r,b55 l=sl r (l.map a0d):=⟨_,rfl⟩
theorem d0j(c:Cir)(hl:c.nodes.length<1000000):sem L.env Mf 96 [.agg c.enc] []=some (b55 (kinds c.nodes 0),[]):=by
 have hc:=λX=>b26 (d:=false) (H:=[X,some (.row 1 [[.int .u8 0]])]) (b:=1) c (k:=0) rfl hl rfl;obtain⟨r,hr⟩:=a78 (kinds c.nodes 0);rw[hr]at hc⊢;simp only[Cir.enc]at hc⊢
 (refine sv Tryz.f96 ?_;simp only[Tryz.f96,gS])
 (repeat first|simp only[ww]|(apply xa;simp+decide only[go_sem,hc];rfl;kernel_rfl))
 (apply fqb;simp+decide only[go_sem]<;>rfl)
theorem c8d(c:Cir)(hl:c.nodes.length<1000000):sem L.env Mf 97 [.agg c.enc] []=some (b55 (kinds c.nodes 14),[]):=by
 have hc:=λX=>b26 (d:=false) (H:=[X,some (.row 1 [[.int .u8 14]])]) (b:=1) c (k:=14) rfl hl rfl;obtain⟨r,hr⟩:=a78 (kinds c.nodes 14);rw[hr]at hc⊢;simp only[Cir.enc]at hc⊢
 (refine sv Tryz.f97 ?_;simp only[Tryz.f97,gS])
 (repeat first|simp only[ww]|(apply xa;simp+decide only[go_sem,hc];rfl;kernel_rfl))
 (apply fqb;simp+decide only[go_sem]<;>rfl)
theorem a94{d:Bool}(H:a02)(c:Cir)(hl:c.nodes.length<1000000):a09 L.env d (sem L.env Mf) (.func (.func 96) [] []) [.agg c.enc] H=some (b55 (kinds c.nodes 0),H,[]):=a04 (by kernel_rfl) (by kernel_rfl) rfl (by simp only[a0c,a1a,Cir.enc,go_sem]) (d0j c hl) (a5q _)
theorem a6x{d:Bool}(H:a02)(c:Cir)(hl:c.nodes.length<1000000):a09 L.env d (sem L.env Mf) (.func (.func 97) [] []) [.agg c.enc] H=some (b55 (kinds c.nodes 14),H,[]):=a04 (by kernel_rfl) (by kernel_rfl) rfl (by simp only[a0c,a1a,Cir.enc,go_sem]) (c8d c hl) (a5q _)
def c41(c:Cir):AV:=.func (.func 176) [] [.iptr c.enc]
theorem c8z(c:Cir):refs (c41 c)=[]:=by rfl
theorem c60(c:Cir):sem L.env Mf 136 [.agg c.enc] []=some (c41 c,[]):=by
 unfold c41;simp only[Cir.enc]
 (refine sv Tryz.f136 ?_;simp only[Tryz.f136,gS])
 (repeat first|simp only[ww]|(apply xa;simp+decide only[go_sem];rfl;kernel_rfl))
 (apply fqb;simp+decide only[go_sem]<;>rfl)
theorem a7x{d:Bool}(H:a02)(c:Cir):a09 L.env d (sem L.env Mf) (.func (.func 136) [] []) [.agg c.enc] H=some (c41 c,H,[]):=a04 (by kernel_rfl) (by kernel_rfl) rfl (by simp only[a0c,a1a,Cir.enc,go_sem]) (c60 c) rfl
theorem d9v(c:Cir)(m:Nat)(hm:m<c.nodes.length):sem L.env Mf 176 [.int .i64 m,.iptr c.enc] []=some (.bool false,[]):=by
 have c1:¬(m:Int)<0:=by omega
 have c2:¬(c.nodes.length:Int)≤m:=by omega
 simp only[Cir.enc]
 (refine sv Tryz.f176 ?_;simp only[Tryz.f176,gS])
 (repeat first|simp only[ww]|(apply xa;simp+decide only[go_sem,c1,c2];rfl;kernel_rfl))
 (apply fqb;simp+decide only[go_sem]<;>rfl)
theorem c00{d:Bool}(H:a02)(c:Cir)(m:Nat)(hm:m<c.nodes.length):a09 L.env d (sem L.env Mf) (c41 c) [.int .i64 m] H=some (.bool false,H,[]):=a04 (by kernel_rfl) (by kernel_rfl) rfl (by simp only[a0c,Cir.enc,go_sem]) (d9v c m hm) rfl
theorem d0m(r:Rep)(l:List Nat)(f:AV)(hf:refs f=[])(hl:l.length<1000000)(hc:∀m∈l,a09 L.env false (sem L.env Mf) f [.int .i64 m] []=some (.bool false,[],[])) :
 sem L.env Mf 117 [sl r (l.map a0d),f] []=some (.int .i64 (-1),[]):=by
 have hr:∀π,ren π f=f:=λπ=>a0x π f hf
 (refine sv Tryz.f117 ?_;simp only[Tryz.f117,gS])
 (repeat first|simp only[ww]|(apply xa;simp+decide only[go_sem];rfl;kernel_rfl))
 refine a1j (σ:=Nat) kp117_0 (λi=>[(0,sl r (l.map a0d)),(1,f),(7,.int .i64 l.length),(8,.int .i64 i)])
  (λ_=>[]) (λi=>l.length-i) (λi=>i≤l.length) 0 ?_ (f0h _) ?_
 ·(simp+decide only[go_sem,a03,a00,hf,hr]<;>rfl)
 ·intro i hi;by_cases ag:i<l.length
  ·obtain⟨x,hx⟩:∃x,l[i]?=some x:=⟨_,z9e ag⟩
   have c1:(i:Int)<l.length:=by omega
   have hw:=wI1 (n:=i) (by omega);have gi:=hc x (c10 hx)
   (repeat first|simp only[ww]|(apply xa;simp+decide only[go_sem,c1,ag,hx,hw,gi];rfl;kernel_rfl))
   refine a4g (i+1) ?_ (by omega) (by omega)
   (simp+decide only[go_sem,a03,a00,hf,hr]<;>rfl)
  ·obtain rfl:i=l.length:=by omega
   have c1:¬(l.length:Int)<l.length:=by omega
   (repeat first|simp only[ww]|(apply xa;simp+decide only[go_sem,c1];rfl;kernel_rfl))
   (apply fqb;simp+decide only[go_sem]<;>rfl)
theorem c6z(r:Rep)(l:List Nat)(f:AV)(hf:refs f=[])(hl:l.length<1000000)(hc:∀m∈l,a09 L.env false (sem L.env Mf) f [.int .i64 m] []=some (.bool false,[],[])) :
 sem L.env Mf 82 [sl r (l.map a0d),f] []=some (.bool false,[]):=by
 have h:=λH=>a04 (E:=L.env) (ah:=false) (call:=sem L.env Mf) (g:=117) (fs:=[]) (cs:=[]) (ar:=[sl r (l.map a0d),f]) (H:=H) (by kernel_rfl) (by kernel_rfl) rfl (by simp only[e9q,e9n,a0c,hf,go_sem]) (d0m r l f hf hl hc) rfl;have c1:¬(0:Int)≤ -1:=by omega
 (refine sv Tryz.f82 ?_;simp only[Tryz.f82,gS])
 (repeat first|simp only[ww]|(apply xa;simp+decide only[go_sem,h,c1];rfl;kernel_rfl))
 (apply fqb;simp+decide only[go_sem]<;>rfl)
theorem c0y{d:Bool}(H:a02)(c:Cir)(r:Rep)(l:List Nat)(hl:l.length<1000000)(h:∀m∈l,m<c.nodes.length) :
 a09 L.env d (sem L.env Mf) (.func (.func 82) [] []) [sl r (l.map a0d),c41 c] H=some (.bool false,H,[]):=
 a04 (by kernel_rfl) (by kernel_rfl) rfl (by simp only[e9q,e9n,a0c,c8z,go_sem]) (c6z r l (c41 c) rfl hl (λm hm=>c00 [] c m (h m hm))) rfl
/- the drivers of a bus -/
theorem d40(c:Cir)(m:Nat)(hm:m<c.nodes.length)(hk:a0l c.nodes m=12):sem L.env Mf 172 [.int .i64 m,.ptr 0 0 0] [some (.row 4 [c.enc])]=some (.bool false,[some (.row 4 [c.enc])]):=by
 obtain⟨x,hx⟩:∃x,c.nodes[m]?=some x:=⟨_,z9e hm⟩
 rw[a15 hx]at hk;simp only[Cir.enc]
 (refine sv Tryz.f172 ?_;simp only[Tryz.f172,gS])
 (repeat first|simp only[ww]|(apply xa;simp+decide only[go_sem,hx,hk,hm];rfl;kernel_rfl))
 (apply fqb;simp+decide only[go_sem]<;>rfl)
theorem a6s(c:Cir):FlatR [c.enc]:=FlatR.cons (by simp only[Cir.enc,go_sem]) FlatR.nil
theorem c61{d:Bool}(H:a02)(c:Cir)(b m:Nat)(hb:a01 H b=some (.row 4 [c.enc]))(hm:m<c.nodes.length)(hk:a0l c.nodes m=12):a09 L.env d (sem L.env Mf) (.func (.func 172) [] [.ptr b 0 0]) [.int .i64 m] H=some (.bool false,H,[b]):=a1q (fs:=[]) (cs:=[.ptr b 0 0]) (ar:=[.int .i64 m]) (by kernel_rfl) (by kernel_rfl) rfl hb (a0f (a6s c)) (FlatO.row (a6s c)) rfl (ap:=[.int .i64 m,.ptr 0 0 0]) (by simp[ren,a4m]) (d40 c m hm hk) rfl
theorem c6h(r:Rep)(l:List Nat)(c:Cir)(hl:l.length<1000000)(hc:∀m∈l,m<c.nodes.length∧a0l c.nodes m=12) :
 sem L.env Mf 117 [sl r (l.map a0d),.func (.func 172) [] [.ptr 0 0 0]] [some (.row 4 [c.enc])]=some (.int .i64 (-1),[some (.row 4 [c.enc])]):=by
 have bF:a08 c.enc=[]:=by simp only[Cir.enc,go_sem]
 have eU:∀π,c.enc.map (ren π)=c.enc:=λπ=>a3q π bF;have ae:=λm h1 h2=>c61 (d:=false) [some (.row 4 [c.enc])] c 0 m rfl h1 h2;generalize he:c.enc=E at bF eU ae
 (refine sv Tryz.f117 ?_;simp only[Tryz.f117,gS])
 (repeat first|simp only[ww]|(apply xa;simp+decide only[go_sem];rfl;kernel_rfl))
 refine a1j (σ:=Nat) kp117_0 (λi=>[(0,sl r (l.map a0d)),(1,.func (.func 172) [] [.ptr 0 0 0]),(7,.int .i64 l.length),(8,.int .i64 i)])
  (λ_=>[some (.row 4 [E])]) (λi=>l.length-i) (λi=>i≤l.length) 0 ?_ (f0h _) ?_
 ·(simp+decide only[go_sem,a03,a00,bF,eU]<;>rfl)
 ·intro i hi;by_cases ag:i<l.length
  ·obtain⟨x,hx⟩:∃x,l[i]?=some x:=⟨_,z9e ag⟩
   have c1:(i:Int)<l.length:=by omega
   have hw:=wI1 (n:=i) (by omega);have gi:=ae x (hc x (c10 hx)).1 (hc x (c10 hx)).2
   (repeat first|simp only[ww]|(apply xa;simp+decide only[go_sem,c1,ag,hx,hw,gi];rfl;kernel_rfl))
   refine a4g (i+1) ?_ (by omega) (by omega)
   (simp+decide only[go_sem,a03,a00,bF,eU]<;>rfl)
  ·obtain rfl:i=l.length:=by omega
   have c1:¬(l.length:Int)<l.length:=by omega
   (repeat first|simp only[ww]|(apply xa;simp+decide only[go_sem,c1];rfl;kernel_rfl))
   (apply fqb;simp+decide only[go_sem,eU]<;>rfl)
theorem c0z(r:Rep)(l:List Nat)(c:Cir)(hl:l.length<1000000)(hc:∀m∈l,m<c.nodes.length∧a0l c.nodes m=12) :
 sem L.env Mf 82 [sl r (l.map a0d),.func (.func 172) [] [.ptr 0 0 0]] [some (.row 4 [c.enc])]=some (.bool false,[some (.row 4 [c.enc])]):=by
 have h:=a1q (E:=L.env) (ah:=false) (call:=sem L.env Mf) (g:=117) (fs:=[]) (cs:=[]) (ar:=[sl r (l.map a0d),.func (.func 172) [] [.ptr 0 0 0]]) (H:=[some (.row 4 [c.enc])]) (b:=0) (by kernel_rfl) (by kernel_rfl) rfl rfl (a0f (a6s c)) (FlatO.row (a6s c)) (by simp only[e9q,e9n,a0c,go_sem]) (by simp only[e9q,e9n,e12,e9p,b5q];simp[ren,b5s,a4m]) (c6h r l c hl hc) rfl;have c1:¬(0:Int)≤ -1:=by omega
 have bF:a08 c.enc=[]:=by simp only[Cir.enc,go_sem]
 have eU:∀π,c.enc.map (ren π)=c.enc:=λπ=>a3q π bF;generalize he:c.enc=E at bF eU h
 (refine sv Tryz.f82 ?_;simp only[Tryz.f82,gS])
 (repeat first|simp only[ww]|(apply xa;simp+decide only[go_sem,h,c1];rfl;kernel_rfl))
 (apply fqb;simp+decide only[go_sem,eU]<;>rfl)
theorem c34{d:Bool}{H:a02}{b:Nat}(c:Cir)(r:Rep)(l:List Nat)(hl:l.length<1000000)(hc:∀m∈l,m<c.nodes.length∧a0l c.nodes m=12)(hb:a01 H b=some (.row 4 [c.enc])) :
 a09 L.env d (sem L.env Mf) (.func (.func 82) [] []) [sl r (l.map a0d),.func (.func 172) [] [.ptr b 0 0]] H=some (.bool false,H,[b]):=
 a1q (fs:=[]) (cs:=[]) (ar:=[sl r (l.map a0d),.func (.func 172) [] [.ptr b 0 0]]) (by kernel_rfl) (by kernel_rfl) rfl hb (a0f (a6s c)) (FlatO.row (a6s c)) (by simp only[e9q,e9n,a0c,go_sem]) (by simp only[e9q,e9n,e12,e9p,b5q];simp[ren,b5s,a4m]) (c0z r l c hl hc) rfl
theorem e64(c:Cir)(x:Nd)(hm:x.mem=0∧x.bit=0)(hk:x.kind≤14):sem L.env Mf 173 [.agg c.enc,.agg x.enc] []=some (.bool true,[]):=by
 have c1:¬(x.kind:Int)=15:=by omega
 obtain⟨m1,m2⟩:=hm;simp only[Cir.enc,Nd.enc,m1,m2]
 (refine sv Tryz.f173 ?_;simp only[Tryz.f173,gS])
 (repeat first|simp only[ww]|(apply xa;simp+decide only[go_sem,c1];rfl;kernel_rfl))
 (apply fqb;simp+decide only[go_sem]<;>rfl)
theorem d6l{d:Bool}(H:a02)(c:Cir)(x:Nd)(hm:x.mem=0∧x.bit=0)(hk:x.kind≤14):a09 L.env d (sem L.env Mf) (.func (.func 173) [] []) [.agg c.enc,.agg x.enc] H=some (.bool true,H,[]):=a04 (by kernel_rfl) (by kernel_rfl) rfl (by simp only[a0c,a1a,Cir.enc,go_sem]) (e64 c x hm hk) rfl
theorem e01(c:Cir)(h:c.wf)(x:Nd)(hx:x∈c.nodes):sem L.env Mf 133 [.agg c.enc,.agg x.enc] []=some (.int .i64 0,[]):=by
 have k14:=h.kind x hx;have bH:=h.lo x hx;have mf:=h.hi x hx;have ai:x.ins.length<1000000:=by
  have:a26 x.kind≤16:=by
   have hk:x.kind=0∨x.kind=1∨x.kind=2∨x.kind=3∨x.kind=4∨x.kind=5∨x.kind=6∨x.kind=7∨x.kind=8∨x.kind=9∨x.kind=10∨x.kind=11∨x.kind=12∨x.kind=13∨x.kind=14:=by omega
   rcases hk with e|e|e|e|e|e|e|e|e|e|e|e|e|e|e<;>rw[e]<;>decide
  omega
 have hf:=λH=>b6r (d:=false) H x.kind (by omega);have ho:=λH=>a7x (d:=true) H c;have hc:=λH=>c0y (d:=true) H c x.c x.ins ai (h.ins x hx);have hb:=λH=>d6l (d:=false) H c x (h.mem x hx) k14;have c1:¬(15:Int)<x.kind:=by omega
 have c2:¬(x.ins.length:Int)<a25 x.kind:=by omega
 have c3:¬(a26 x.kind:Int)<x.ins.length:=by omega
 have bF:a08 c.enc=[]:=by simp only[Cir.enc,go_sem]
 by_cases hk:x.kind=13
 ·have bK:=λ(X:Option AObj)=>c34 (d:=false) (H:=[some (.row 4 [c.enc]),X]) (b:=0) c x.c x.ins ai (λm hm=>⟨h.ins x hx m hm,h.bus x hx hk m hm⟩) rfl;have ck:decide ((x.kind:Int)=13)=true:=f2x (by omega);simp only[Cir.enc,Nd.enc]at ho hc hb bK⊢
  (refine sv Tryz.f133 ?_;simp only[Tryz.f133,gS])
  (repeat first|simp only[ww]|(apply xa;simp+decide only[go_sem,hf,c1,c2,c3,ho,hc,hb,bK,ck];rfl;kernel_rfl))
  (apply fqb;simp+decide only[go_sem]<;>rfl)
 ·have ck:¬(x.kind:Int)=13:=by omega
  simp only[Cir.enc,Nd.enc]at ho hc hb⊢
  (refine sv Tryz.f133 ?_;simp only[Tryz.f133,gS])
  (repeat first|simp only[ww]|(apply xa;simp+decide only[go_sem,hf,c1,c2,c3,ho,hc,hb,ck];rfl;kernel_rfl))
  (apply fqb;simp+decide only[go_sem]<;>rfl)
theorem c9c{d:Bool}(H:a02)(c:Cir)(h:c.wf)(x:Nd)(hx:x∈c.nodes):a09 L.env d (sem L.env Mf) (.func (.func 133) [] []) [.agg c.enc,.agg x.enc] H=some (.int .i64 0,H,[]):=a04 (by kernel_rfl) (by kernel_rfl) rfl (by simp only[a0c,a1a,Cir.enc,go_sem]) (e01 c h x hx) rfl
theorem d0b(i:Nat)(hi:i<14):sem L.env Mf 174 [.str (a3t i)] []=some (.bool true,[]):=by
 have h:i=0∨i=1∨i=2∨i=3∨i=4∨i=5∨i=6∨i=7∨i=8∨i=9∨i=10∨i=11∨i=12∨i=13:=by omega
 rcases h with rfl|rfl|rfl|rfl|rfl|rfl|rfl|rfl|rfl|rfl|rfl|rfl|rfl|rfl
 ·exact d51
 ·exact d50
 ·exact d4z
 ·exact d4y
 ·exact d4x
 ·exact d4w
 ·exact d4v
 ·exact d4u
 ·exact d4t
 ·exact d4s
 ·exact d0f
 ·exact d0e
 ·exact d0d
 ·exact d0c
theorem c2n{d:Bool}(H:a02)(i:Nat)(hi:i<14):a09 L.env d (sem L.env Mf) (.func (.func 174) [] []) [.str (a3t i)] H=some (.bool true,H,[]):=a04 (by kernel_rfl) (by kernel_rfl) rfl rfl (d0b i hi) rfl
def a7y(i:Nat):List AV:=(List.range i).map λj=>.str (a3t j)
theorem c2c(i:Nat):a7y (i+1)=a7y i++[.str (a3t i)]:=by unfold a7y;rw[List.range_succ,f2o];rfl
theorem eqS(a b:List UInt8):aeq L.env 6 9 (.str a) (.str b)=some (a==b):=by kernel_rfl
theorem c9j{i j:Nat}(hi:i<14)(hj:j<14)(h:a3t i=a3t j):i=j:=by unfold a3t at h;simp only[List.cons.injEq,and_true,true_and]at h;have h1:=congrArg UInt8.toNat h.1;have h2:=congrArg UInt8.toNat h.2;simp only[UInt8.toNat_ofNat']at h1 h2;omega
theorem d1a(s:Nat)(hs:s<14):∀(l:List Nat) (b:Nat),(∀j∈l,j<s)→a29 (aeq L.env 6 9) (.str (a3t s)) (l.map λj=>.str (a3t j)) b=some none
 | [],b,_=>rfl
 |j::l,b,h=>by
  have au:(a3t s==a3t j)=false:=by rw[f3k];intro e;have:=c9j hs (by have:=h j (by simp);omega) e;have:=h j (by simp);omega
  simp only[e12,a29,eqS,au,f2z];exact d1a s hs l (b+1) (λj hj=>h j (by simp[hj]))
theorem c9g(i:Nat)(hi:i<14):a29 (aeq L.env 6 9) (.str (a3t i)) (a7y i) 0=some none:=d1a i hi _ 0 (λj hj=>by simpa using hj)
def nmO(i:Nat):AObj:=.map (a7y i) (List.replicate i (.bool true)) (List.range i) i
theorem c9f(i:Nat)(hi:i<14):a7j L.env (a01 [some (nmO i)]) 238 (.map 0) (.str (a3t i)) false=some (.bool false):=by
 have h:=c9g i hi;have e:a7j L.env (a01 [some (nmO i)]) 238 (.map 0) (.str (a3t i)) false=match a29 (aeq L.env 6 9) (.str (a3t i)) (a7y i) 0 with
  |some (some j)=>match(List.replicate i (AV.bool true))[j]? with
   |some v=>some (bif false then .tuple [v,.bool true]else v)
   |none=>none
  |some none=>some (.bool false)
  |none=>none:=by kernel_rfl
 rw[e,h]
theorem c9e(i:Nat)(hi:i<14):a2o L.env (a01 [some (nmO i)]) 238 (.map 0) (.str (a3t i)) (.bool true)=some (.set 0 (nmO (i+1))):=by
 have h:=c9g i hi;unfold a2o;have e:b1t L.env (a01 [some (nmO i)]) 238 (.map 0) (.str (a3t i))=match a29 (aeq L.env 6 9) (.str (a3t i)) (a7y i) 0 with
  |some (some j)=>match(a7y i)[j]? with
   |some k0=>bif d6o k0 (.str (a3t i))then some (0,a7y i,List.replicate i (AV.bool true),List.range i,i,some j)else none
   |none=>none
  |some none=>some (0,a7y i,List.replicate i (AV.bool true),List.range i,i,none)
  |none=>none:=by kernel_rfl
 rw[e,h];simp only[nmO,c2c,List.range_succ,List.replicate_succ']
theorem c2b(i:Nat):a0o (some (nmO i))=[]:=by
 simp only[nmO,a0o,a7y];have h1:∀l:List Nat,a08 (l.map λj=>AV.str (a3t j))=[]:=by intro l;induction l with|nil=>rfl|cons a l ih=>simp[a08,refs,ih]
 have h2:∀n,a08 (List.replicate n (AV.bool true))=[]:=by intro n;induction n with|zero=>rfl|succ n ih=>simp[f6o,a08,refs,ih]
 rw[h1,h2];rfl
theorem d7t(π:Nat→Option Nat)(i:Nat):a0g π (nmO i)=nmO i:=by have h:=c2b i;simp only[nmO,a0o,f6u]at h;simp only[nmO,a0g,a3q π h.1,a3q π h.2]
theorem d46(c:Cir)(h:c.wf):sem L.env Mf 134 [.agg c.enc] []=some (.int .i64 0,[]):=by
 have hn:=h.len;have oP:c.names.length=c.nodes.length:=by rw[h.names];simp
 simp only[Cir.enc]
 (refine sv Tryz.f134 ?_;simp only[Tryz.f134,gS])
 (repeat first|simp only[ww]|(apply xa;simp+decide only[go_sem];rfl;kernel_rfl))
 have e0:AObj.map [] [] [] 0=nmO 0:=by rfl
 refine a1j (σ:=Nat) kp134_0 (λi=>[(3,.map 0),(8,sl c.mc (c.names.map a1s)),(9,.int .i64 c.names.length),(10,.int .i64 i)])
  (λi=>[some (nmO i)]) (λi=>c.names.length-i) (λi=>i≤c.names.length) 0 ?_ (f0h _) ?_
 ·rw[e0]
  (simp+decide only[go_sem,a03,a00,c2b,d7t]<;>rfl)
 ·intro i hi;by_cases ag:i<c.names.length
  ·have hx:c.names[i]?=some (a3t i):=by rw[h.names,f0d,List.getElem?_range (by omega)];rfl
   have c1:(i:Int)<c.names.length:=by omega
   have hw:=wI1 (n:=i) (by omega);have gB:=λH=>c2n (d:=false) H i (by omega);have tC:=c9f i (by omega);have tg:=c9e i (by omega)
   (repeat first|simp only[ww]|(apply xa;simp+decide only[go_sem,c1,ag,hx,hw,gB,tC,tg];rfl;kernel_rfl))
   refine a4g (i+1) ?_ (by omega) (by omega)
   (simp+decide only[go_sem,a03,a00,c2b,d7t]<;>rfl)
  ·obtain rfl:i=c.names.length:=by omega
   have c1:¬(c.names.length:Int)<c.names.length:=by omega
   (repeat first|simp only[ww]|(apply xa;simp+decide only[go_sem,c1];rfl;kernel_rfl))
   (apply fqb;simp+decide only[go_sem]<;>rfl)
theorem a5r(c:Cir):a08 [.agg c.enc]=[]:=by simp only[a0c,a1a,Cir.enc,go_sem]
theorem c64{d:Bool}(H:a02)(c:Cir)(h:c.wf):a09 L.env d (sem L.env Mf) (.func (.func 134) [] []) [.agg c.enc] H=some (.int .i64 0,H,[]):=a04 (by kernel_rfl) (by kernel_rfl) rfl (a5r c) (d46 c h) rfl
theorem d3l(c:Cir)(h:c.wf):sem L.env Mf 91 [.agg c.enc] []=some (.int .i64 0,[]):=by
 have hn:=h.len;have oP:c.names.length=c.nodes.length:=by rw[h.names];simp
 have dS:=h.outl;have c1:¬(16384:Int)<c.nodes.length:=by omega
 have c2:¬(16384:Int)<c.outs.length:=by omega
 have bU:=λH x hx=>c9c (d:=false) H c h x hx;have iE:=λH=>c64 (d:=false) H c h;have l5:=λH=>a7x (d:=true) H c;have sg:=λH=>c0y (d:=true) H c c.oc c.outs (by omega) h.outs;have ai:c.enc.length=4:=rfl;simp only[Cir.enc]at bU iE l5 sg⊢
 (refine sv Tryz.f91 ?_;simp only[Tryz.f91,gS])
 (repeat first|simp only[ww]|(apply xa;simp+decide only[go_sem,c1,c2,oP];rfl;kernel_rfl))
 refine a1j (σ:=Nat) kp91_1 (λi=>[(1,.ptr 0 0 0),(36,sl c.nc (c.nodes.map Nd.enc)),(37,.int .i64 c.nodes.length),(38,.int .i64 i)])
  (λi=>[some (.row 4 [[sl c.nc (c.nodes.map Nd.enc),sl c.mc (c.names.map a1s),.nilslice,sl c.oc (c.outs.map a0d)]])]) (λi=>c.nodes.length-i) (λi=>i≤c.nodes.length) 0 ?_ (f0h _) ?_
 ·(simp+decide only[go_sem,a03,a00]<;>rfl)
 ·intro i hi;by_cases ag:i<c.nodes.length
  ·obtain⟨x,hx⟩:∃x,c.nodes[i]?=some x:=⟨_,z9e ag⟩
   have c1:(i:Int)<c.nodes.length:=by omega
   have hw:=wI1 (n:=i) (by omega);have gi:=λH=>bU H x (c10 hx);simp only[Nd.enc]at gi
   (repeat first|simp only[ww]|(apply xa;simp+decide only[go_sem,c1,ag,hx,hw,gi];rfl;kernel_rfl))
   refine a4g (i+1) ?_ (by omega) (by omega)
   (simp+decide only[go_sem,a03,a00]<;>rfl)
  ·obtain rfl:i=c.nodes.length:=by omega
   have c1:¬(c.nodes.length:Int)<c.nodes.length:=by omega
   (repeat first|simp only[ww]|(apply xa;simp+decide only[go_sem,c1,iE];rfl;kernel_rfl))
   refine a1j (σ:=Nat) kp91_3 (λi=>[(1,.ptr 0 0 0),(55,.nilslice),(56,.int .i64 0),(57,.int .i64 0)])
    (λi=>[some (.row 4 [[sl c.nc (c.nodes.map Nd.enc),sl c.mc (c.names.map a1s),.nilslice,sl c.oc (c.outs.map a0d)]])]) (λi=>0) (λi=>True) 0 ?_ trivial ?_
   ·(simp+decide only[go_sem,a03,a00]<;>rfl)
   ·intro i _
    (repeat first|simp only[ww]|(apply xa;simp+decide only[go_sem,l5,sg];rfl;kernel_rfl))
    (apply fqb;simp+decide only[go_sem]<;>rfl)
theorem c5q{d:Bool}(H:a02)(c:Cir)(h:c.wf):a09 L.env d (sem L.env Mf) (.func (.func 91) [] []) [.agg c.enc] H=some (.int .i64 0,H,[]):=a04 (by kernel_rfl) (by kernel_rfl) rfl (a5r c) (d3l c h) rfl
theorem b4g{d:Bool}(H:a02)(k:Nat)(hk:k<256):a09 L.env d (sem L.env Mf) (.func (.func 92) [] []) [.int .u8 k] H=some (.bool (a1l k),H,[]):=a04 (by kernel_rfl) (by kernel_rfl) rfl rfl (e1d k hk) rfl
def foE(fo:List (List (Nat×Nat))):List (List (List AV)):=fo.map (·.map a80)
theorem a5v(fo:List (List (Nat×Nat))):(foE fo).length=fo.length:=by unfold foE;simp
theorem a7b{fo:List (List (Nat×Nat))}{j:Nat}{L:List (Nat×Nat)}(h:fo[j]?=some L):(foE fo)[j]?=some (L.map a80):=by unfold foE;rw[f0d,h];rfl
theorem d16(fo:List (List (Nat×Nat)))(j:Nat)(L:List (Nat×Nat))(i k:Nat):(foE fo).set j (L.map a80++[a80 (i,k)])=foE (fo.set j (L++[(i,k)])):=by unfold foE;rw[f3y,f2o];rfl
def J0(c:Cir)(n:Nat)(F:Frm)(H:a02):Prop:=∃i b al fo,n=c.nodes.length-i∧i≤c.nodes.length∧
 F=[(3,.slice b 0 c.nodes.length (some c.nodes.length)),(4,c41 c),(18,sl c.nc (c.nodes.map Nd.enc)),(19,.int .i64 c.nodes.length),(20,.int .i64 i)]∧Two H b 2 al (λ_=>none) (foE fo)∧FoOk c.nodes i 0 fo
def J2(c:Cir)(i:Nat)(x:Nd)(n:Nat)(F:Frm)(H:a02):Prop:=∃k b al fo,n=x.ins.length-k∧k≤x.ins.length∧
 F=[(3,.slice b 0 c.nodes.length (some c.nodes.length)),(4,c41 c),(5,.int .i64 i),(18,sl c.nc (c.nodes.map Nd.enc)),(19,.int .i64 c.nodes.length),(20,.int .i64 i),(26,sl x.c (x.ins.map a0d)),(27,.int .i64 x.ins.length),(28,.int .i64 k)]∧Two H b 2 al (λ_=>none) (foE fo)∧FoOk c.nodes i k fo
def cpT(fo:List (List (Nat×Nat)))(t:Nat):Nat→Option Nat:=λj=>if j<t then(fo[j]?).map List.length else none
def J4(c:Cir)(fo:List (List (Nat×Nat)))(n:Nat)(F:Frm)(H:a02):Prop:=∃t b al,n=c.nodes.length-t∧t≤c.nodes.length∧
 F=[(3,.slice b 0 c.nodes.length (some c.nodes.length)),(51,.slice b 0 c.nodes.length (some c.nodes.length)),(52,.int .i64 c.nodes.length),(53,.int .i64 t)]∧Two H b 2 al (cpT fo t) (foE fo)
theorem d37(H:a02)(n:Nat)(b:Nat)(h:a01 H b=some (.row 1 (List.replicate n [.nilslice]))):Two H b 2 (λ_=>0) (λ_=>none) (foE (List.replicate n [])):=by
 have dO:foE (List.replicate n [])=List.replicate n []:=by unfold foE;rw[List.map_replicate];rfl
 rw[dO];have bU:∀(j:Nat) (f:List (List AV)),(List.replicate n ([]:List (List AV)))[j]?=some f→f=[]:=by
  intro j f hf;rw[f3m]at hf;split at hf
  ·cases hf;rfl
  ·cases hf
 refine⟨?_,λj f hf au=>absurd (bU j f hf) au,λi j f g hf _ au=>absurd (bU i f hf) au,λf hf=>?_⟩
 ·rw[h]
  congr 2
  apply f3g;intro j;unfold a24;rw[f1t,f3m,f3m];split<;>rfl
 ·rw[(List.mem_replicate.1 hf).2];exact FlatR.nil
theorem d5s(fo:List (List (Nat×Nat))):cpT fo 0=λ_=>none:=by funext j;simp[cpT]
theorem d5t{fo:List (List (Nat×Nat))}{t:Nat}{L:List (Nat×Nat)}(h:fo[t]?=some L):(λi=>if i=t then some L.length else cpT fo t i)=cpT fo (t+1):=by
 funext j
 unfold cpT;by_cases h1:j=t
 ·subst h1;simp[h]
 ·by_cases h2:j<t
  ·simp[h1,h2,show j<t+1 by omega]
  ·simp[h1,h2,show ¬j<t+1 by omega]
theorem d1x:sem L.env Mf 137 [.nilslice] []=some (.nilslice,[]):=by
 (refine sv Tryz.f137 ?_;simp only[Tryz.f137,gS])
 (repeat first|simp only[ww]|(apply xa;simp+decide only[go_sem];rfl;kernel_rfl))
 (apply fqb;simp+decide only[go_sem]<;>rfl)
theorem d6a(n:Nat)(rows:List (List AV))(hf:FlatR rows):sem L.env Mf 137 [.slice 0 0 n none] [some (.row 2 rows)]=some (.slice 0 0 n (some n),[some (.row 2 rows)]):=by
 have h1:=λπ=>a0b π hf
 (refine sv Tryz.f137 ?_;simp only[Tryz.f137,gS])
 (repeat first|simp only[ww]|(apply xa;simp+decide only[go_sem];rfl;kernel_rfl))
 (apply fqb;simp+decide only[go_sem,h1]<;>rfl)
theorem c35{d:Bool}(H:a02):a09 L.env d (sem L.env Mf) (.func (.func 137) [] []) [.nilslice] H=some (.nilslice,H,[]):=a04 (by kernel_rfl) (by kernel_rfl) rfl rfl d1x rfl
theorem c72{d:Bool}{H:a02}{b n:Nat}{rows:List (List AV)}(hf:FlatR rows)(hb:a01 H b=some (.row 2 rows)):a09 L.env d (sem L.env Mf) (.func (.func 137) [] []) [.slice b 0 n none] H=some (.slice b 0 n (some n),H,[b]):=by have h:=a3k (E:=L.env) (ah:=d) (call:=sem L.env Mf) (g:=137) (fs:=[]) (cs:=[]) (ar:=[.slice b 0 n none]) (H:=H) (b:=b) (by kernel_rfl) (by kernel_rfl) rfl hb (a0f hf) (FlatO.row hf) rfl (ap:=[AV.slice 0 0 n none]) (by simp only[e9q,e9n,e12,e9p,a1t]) (d6a n rows hf) (FlatO.row hf) (a4t b 0 _ n _);rw[a5c hb]at h;exact h
theorem d1d(c:Cir)(h:c.wf):∃r:AV×a02,(∃fo,FoOk c.nodes c.nodes.length 0 fo∧r=(AV.islice ((foE fo).mapIdx λj f=>[slF (cpT fo c.nodes.length j) f]) (some c.nodes.length),[]))∧sem L.env Mf 93 [.agg c.enc] []=some r:=by
 have hn:=h.len;have l5:=λH=>a7x (d:=false) H c;have aO:c.nodes.length≤1000000000:=by omega
 have hov:refs (c41 c)=[]:=rfl;have bT:∀π,ren π (c41 c)=c41 c:=λπ=>a0x π _ rfl;have d7:=λH m hm=>c00 (d:=false) H c m hm;generalize hO:c41 c=O at l5 hov bT d7;simp only[Cir.enc]at l5⊢
 (refine svE Tryz.f93 ?_;simp only[Tryz.f93,gS])
 (repeat first|simp only[ww]|(apply xa;simp+decide only[go_sem,l5,aO];rfl;kernel_rfl))
 refine a1x kp93_0 (J0 c) (c.nodes.length-0) ?_ ?_
 ·refine a5y (d37 _ c.nodes.length 1 rfl) ?_ (by rw[a5v];simp;omega) ?_
  ·exact .inl (by simp+decide only[go_sem,hov])
  ·intro π b' aD H1 hb hT;refine⟨0,b',aD,_,rfl,f0h _,?_,hT,FoOk.zero _⟩;simp+decide only[go_sem,hb,bT,hO]<;>rfl
 ·rintro n F H ⟨i,b,al,fo,rfl,hi,rfl,hT,hF⟩
  by_cases ag:i<c.nodes.length
  ·obtain⟨x,hx⟩:∃x,c.nodes[i]?=some x:=⟨_,z9e ag⟩
   have c1:(i:Int)<c.nodes.length:=by omega
   have hw:=wI1 (n:=i) (by omega);have bE:=a0t hT.top;have rc:=a1o hx;rw[hO]
   (repeat first|simp only[ww]|(apply xa;simp+decide only[go_sem,c1,ag,hx,hw,a28,a37,a57,a6e,a4f];rfl;kernel_rfl))
   refine a1x kp93_2 (J2 c i x) (x.ins.length-0) ?_ ?_
   ·refine a5y (hT.more) ?_ (by rw[a5v,hF.len];omega) ?_
    ·exact .inl (by simp+decide only[go_sem,hov])
    ·intro π b' aD H1 hb hT;refine⟨0,b',aD,_,rfl,f0h _,?_,hT,hF⟩;simp+decide only[go_sem,hb,bT,hO]<;>rfl
   ·rintro n F H ⟨k,b,al,fo,rfl,hk,rfl,hT,hF⟩
    rw[hO];by_cases bw:k<x.ins.length
    ·obtain⟨m,hm⟩:∃m,x.ins[k]?=some m:=⟨_,z9e bw⟩
     have dL:=h.ins x (c10 hx) m (c10 hm);have rE:=λH=>d7 H m dL;have c2:(k:Int)<x.ins.length:=by omega
     have cW:=h.insl (c10 hx);have e7:=wI1 (n:=k) (by omega);have bE:=a0t hT.top;have ec:=hT.top;have tz:m<fo.length:=by rw[hF.len];exact dL
     obtain⟨L,hL⟩:∃L,fo[m]?=some L:=⟨_,z9e tz⟩
     have aG:=a6f (al:=al) (cp:=λ_=>none) (a7b hL);have bm:=hF.step (by rw[rc];exact hm) hL;have dD:(a24 al (λ_=>none) (foE fo)).length=c.nodes.length:=by rw[a3o,a5v,hF.len]
     cases L with
     |nil=>
      simp only[e9p,slV]at aG
      (repeat first|simp only[ww]|(apply xa;simp+decide only[go_sem,c2,bw,hm,e7,rE,bE,ec,dL,aG,a28,a37,a1m,a57,a6e,a7u,a4f,a4e,e9o,f0k,e9q,dD];rfl;kernel_rfl))
      refine a0p (x.ins.length-(k+1)) (by omega) ?_;have cB:=hT.app1 (o:=some (.row 2 [a80 (i,k)])) (x:=a80 (i,k)) (a7b hL) rfl rfl;have e2:(foE fo).set m [a80 (i,k)]=foE (fo.set m ([]++[(i,k)])):=d16 fo m [] i k;rw[e2]at cB;refine a5y cB ?_ (by rw[a5v,f2r,hF.len];omega) ?_
      ·exact .inl (by simp+decide only[go_sem,hov])
      ·intro π b' aD H1 hb hT;refine⟨k+1,b',aD,_,rfl,bw,?_,hT,bm⟩;simp+decide only[go_sem,hb,bT,hO]<;>rfl
     |cons a r=>
      simp only[e12,slV]at aG;have aT:=hT.sub m _ (a7b hL) (by simp);obtain⟨s1,s2⟩:=aT;have s3:=a0t s1;simp only[e12]at s1;have oe:r.length+1+1≤1000000000:=by have:=hF.total hL (h.len) (λy hy=>h.insl hy);simp only[e9m]at this;omega
      (repeat first|simp only[ww]|(apply xa;simp+decide only[go_sem,c2,bw,hm,e7,rE,bE,ec,dL,aG,a28,a37,a1m,a6p,f2r,s1,s2,s3,oe,a57,a6e,a7u,a4f,a4e,e9o,f0k,e9q,dD];rfl;kernel_rfl))
      refine a0p (x.ins.length-(k+1)) (by omega) ?_;have cB:=hT.app2 (o:=some (.row 2 [a80 (i,k)])) (x:=a80 (i,k)) (a7b hL) rfl rfl;have e2:(foE fo).set m (a80 a::List.map a80 r++[a80 (i,k)])=foE (fo.set m (a::r++[(i,k)])):=d16 fo m (a::r) i k;rw[e2]at cB;rw[c11]at cB;refine a5y cB ?_ (by rw[a5v,f2r,hF.len];omega) ?_
      ·exact .inl (by simp+decide only[go_sem,hov])
      ·intro π b' aD H1 hb hT;refine⟨k+1,b',aD,_,rfl,bw,?_,hT,bm⟩;simp+decide only[go_sem,hb,bT,hO]<;>rfl
    ·obtain rfl:k=x.ins.length:=by omega
     have c2:¬(x.ins.length:Int)<x.ins.length:=by omega
     (repeat first|simp only[ww]|(apply xa;simp+decide only[go_sem,c2,hw];rfl;kernel_rfl))
     refine a0p (c.nodes.length-(i+1)) (by omega) ?_;refine a5y hT ?_ (by rw[a5v,hF.len];omega) ?_
     ·exact .inl (by simp+decide only[go_sem,hov])
     ·intro π b' aD H1 hb hT;refine⟨i+1,b',aD,_,rfl,by omega,?_,hT,hF.next (by rw[rc])⟩;simp+decide only[go_sem,hb,bT,hO]<;>rfl
  ·obtain rfl:i=c.nodes.length:=by omega
   have c1:¬(c.nodes.length:Int)<c.nodes.length:=by omega
   rw[hO]
   (repeat first|simp only[ww]|(apply xa;simp+decide only[go_sem,c1];rfl;kernel_rfl))
   refine a1x kp93_4 (J4 c fo) (c.nodes.length-0) ?_ ?_
   ·refine a5y hT ?_ (by rw[a5v,hF.len];omega) ?_
    ·exact .inr (by simp+decide only[go_sem,hov])
    ·intro π b' aD H1 hb hT;refine⟨0,b',aD,rfl,f0h _,?_,by rw[d5s];exact hT⟩;simp+decide only[go_sem,hb,bT,hO]<;>rfl
   ·rintro n F H ⟨t,b,al,rfl,ht,rfl,hT⟩
    by_cases cU:t<c.nodes.length
    ·have c2:(t:Int)<c.nodes.length:=by omega
     have e7:=wI1 (n:=t) (by omega);have bE:=a0t hT.top;have ec:=hT.top;obtain⟨L,hL⟩:∃L,fo[t]?=some L:=⟨_,z9e (by rw[hF.len];exact cU)⟩
     have aG:=a6f (al:=al) (cp:=cpT fo t) (a7b hL);have nJ:cpT fo t t=none:=by simp[cpT]
     have dD:(a24 al (cpT fo t) (foE fo)).length=c.nodes.length:=by rw[a3o,a5v,hF.len]
     rw[nJ]at aG;have bD:∀H1,H1=H.set b (some (.row 1 ((a24 al (cpT fo t) (foE fo)).set t [slV (al t) (some L.length) (L.map a80)])))→Two H1 b 2 al (cpT fo (t+1)) (foE fo):=by
      intro H1 lM;have:=hT.clip (H1:=H1) (a7b hL) (by rw[lM,a3c bE]) (λc hc=>by rw[lM,a0z (f4j hc)])
      rwa [d5t hL]at this
     cases L with
     |nil=>
      simp only[e9p,slV]at aG;have bL:=λH=>c35 (d:=false) H
      (repeat first|simp only[ww]|(apply xa;simp+decide only[go_sem,c2,cU,e7,bE,ec,aG,bL,dD,f2r];rfl;kernel_rfl))
      refine a0p (c.nodes.length-(t+1)) (by omega) ?_;refine a5y (bD _ rfl) ?_ (by rw[a5v,hF.len];omega) ?_
      ·exact .inr (by simp+decide only[go_sem,hov])
      ·intro π b' aD H1 hb hT;refine⟨t+1,b',aD,rfl,by omega,?_,hT⟩;simp+decide only[go_sem,hb,bT,hO]<;>rfl
     |cons a r=>
      simp only[e12,slV]at aG;obtain⟨s1,s2⟩:=hT.sub t _ (a7b hL) (by simp);have bL:=c72 (d:=false) (H:=H) (b:=al t) (n:=r.length+1) (hT.flat _ (c10 (a7b hL))) s1
      (repeat first|simp only[ww]|(apply xa;simp+decide only[go_sem,c2,cU,e7,bE,ec,aG,bL,dD,f2r];rfl;kernel_rfl))
      refine a0p (c.nodes.length-(t+1)) (by omega) ?_;refine a5y (bD _ (by simp only[e12,slV,c11,e9m])) ?_ (by rw[a5v,hF.len];omega) ?_
      ·exact .inr (by simp+decide only[go_sem,hov])
      ·intro π b' aD H1 hb hT;refine⟨t+1,b',aD,rfl,by omega,?_,hT⟩;simp+decide only[go_sem,hb,bT,hO]<;>rfl
    ·obtain rfl:t=c.nodes.length:=by omega
     have c2:¬(c.nodes.length:Int)<c.nodes.length:=by omega
     have hz:=hT.frz (some c.nodes.length);rw[a5v,hF.len]at hz
     (repeat first|simp only[ww]|(apply xa;simp+decide only[go_sem,c2];rfl;kernel_rfl))
     refine a8r (vs:=[.slice b 0 c.nodes.length (some c.nodes.length)]) (r:=(_,[])) (by simp+decide only[go_sem]) ?_ ⟨fo,hF,rfl⟩;show a10 false 0 (.slice b 0 c.nodes.length (some c.nodes.length)) H=_;rw[b44,hz];rfl
def foR(c:Cir)(fo:List (List (Nat×Nat))):List (List AV):=(foE fo).mapIdx λj f=>[slF (cpT fo c.nodes.length j) f]
theorem e0w{c:Cir}{fo:List (List (Nat×Nat))}{j:Nat}{L:List (Nat×Nat)}(h:fo[j]?=some L)(hj:j<c.nodes.length):(foR c fo)[j]?=some [slF (some L.length) (L.map a80)]:=by unfold foR;rw[f1t,a7b h];simp[cpT,hj,h]
theorem c30(c:Cir)(h:c.wf):∃fo,FoOk c.nodes c.nodes.length 0 fo∧∀(d:Bool) (H:a02),a09 L.env d (sem L.env Mf) (.func (.func 93) [] []) [.agg c.enc] H=some (.islice (foR c fo) (some c.nodes.length),H,[]):=by obtain⟨r,⟨fo,h1,rfl⟩,h2⟩:=d1d c h;exact⟨fo,h1,λd H=>a04 (by kernel_rfl) (by kernel_rfl) rfl (a5r c) h2 rfl⟩
def kcb(c:Cir):Option AObj:=some (.row 4 [[sl c.nc (c.nodes.map Nd.enc),sl c.mc (c.names.map a1s),.nilslice,sl c.oc (c.outs.map a0d)]])
attribute [go_sem] kcb
def JL2(c:Cir)(fo:List (List (Nat×Nat)))(n:Nat)(F:Frm)(H:a02):Prop:=∃(out left ready:List Nat) (done:Nat),n=c.nodes.length-done∧
 F=[(1,.ptr 0 0 0),(5,.slice 1 0 c.nodes.length (some c.nodes.length)),(6,.slice 2 0 c.nodes.length (some c.nodes.length)),(7,grV 3 (ready.map a0d)),(10,.islice (foR c fo) (some c.nodes.length)),(11,.int .i64 done)]∧
 H=[kcb c,some (.row 1 (out.map a0d)),some (.row 1 (left.map a0d))]++grH 1 (ready.map a0d)∧Kahn c.nodes left ready done []∧out.length=c.nodes.length∧(∀v∈out,v≤300*done)∧Lev c.nodes out ready done []
def JL4(c:Cir)(fo:List (List (Nat×Nat)))(done x:Nat)(L:List (Nat×Nat))(n:Nat)(F:Frm)(H:a02):Prop:=∃(out left ready:List Nat) (q:Nat),n=L.length-q∧q≤L.length∧
 F=[(1,.ptr 0 0 0),(5,.slice 1 0 c.nodes.length (some c.nodes.length)),(6,.slice 2 0 c.nodes.length (some c.nodes.length)),(7,grV 3 (ready.map a0d)),(10,.islice (foR c fo) (some c.nodes.length)),(11,.int .i64 (done+1:Nat)),(12,.int .i64 x),(76,.islice (L.map a80) (some L.length)),(77,.int .i64 L.length),(78,.int .i64 q)]∧
 H=[kcb c,some (.row 1 (out.map a0d)),some (.row 1 (left.map a0d))]++grH 1 (ready.map a0d)∧Kahn c.nodes left ready done (L.take q)∧ready[done]?=some x∧out.length=c.nodes.length∧(∀v∈out,v≤300*done+q)∧Lev c.nodes out ready done (L.take q)
theorem f1m(n:Nat):List.replicate n [AV.int .i64 0]=(List.replicate n 0).map a0d:=by rw[List.map_replicate];rfl
theorem d6t(a b:Nat):d6u (.int .i64 a) [.int .i64 (b:Int)]=some (.int .i64 ((max a b:Nat):Int)):=by
 simp only[d6u];by_cases h:(b:Int)>a
 ·rw[f1r h];congr 2;omega
 ·rw[f0j h];congr 2;omega
theorem d03(c:Cir)(h:c.wf):∃r:AV×a02,(∃lv:List Nat,lv.length=c.nodes.length∧(∀v∈lv,v≤100000)∧Rises c.nodes lv∧r=(.tuple [.islice (lv.map a0d) (some c.nodes.length),.int .i64 0],[]))∧sem L.env Mf 45 [.agg c.enc] []=some r:=by
 have hn:=h.len;obtain⟨fo,dO,ln⟩:=c30 c h;have ln:=ln false;have kL:=λH=>c5q (d:=false) H c h;have aO:c.nodes.length≤1000000000:=by omega
 have uC:a0o (kcb c)=[]:=by simp only[go_sem]
 simp only[Cir.enc]at ln kL⊢
 (refine svE Tryz.f45 ?_;simp only[Tryz.f45,gS])
 (repeat first|simp only[ww]|(apply xa;simp+decide only[go_sem,kL,aO];rfl;kernel_rfl))
 refine a1j (σ:=Nat) kp45_0 (λi=>[(1,.ptr 0 0 0),(5,.slice 1 0 c.nodes.length (some c.nodes.length)),(6,.slice 2 0 c.nodes.length (some c.nodes.length)),(7,grV 3 ((a3z c.nodes i).map a0d)),(29,sl c.nc (c.nodes.map Nd.enc)),(30,.int .i64 c.nodes.length),(31,.int .i64 i)])
  (λi=>[kcb c,some (.row 1 ((List.replicate c.nodes.length 0).map a0d)),some (.row 1 ((a3a c.nodes i).map a0d))]++grH 1 ((a3z c.nodes i).map a0d)) (λi=>c.nodes.length-i) (λi=>i≤c.nodes.length) 0 ?_ (f0h _) ?_
 ·rw[c2k,show a3z c.nodes 0=[]from rfl]
  (simp+decide only[go_sem,a03,a00,f1m,e9p,a0q,a0r,a1u,a32]<;>rfl)
 ·intro i hi;by_cases ag:i<c.nodes.length
  ·obtain⟨x,hx⟩:∃x,c.nodes[i]?=some x:=⟨_,z9e ag⟩
   have c1:(i:Int)<c.nodes.length:=by omega
   have hw:=wI1 (n:=i) (by omega);have k14:=h.kind x (c10 hx);have bV:=λH=>b4g (d:=false) H x.kind (by omega);have bl:(a3a c.nodes i).length=c.nodes.length:=by simp[a3a]
   have iP:(a3a c.nodes i)[i]?=some 0:=by rw[a5h ag];simp
   have dD:=c5x c.nodes i;have fj:=b9r c.nodes i;have a7:=b3n ag;have gU:(a3a c.nodes (i+1))[i]?=some (a9n c.nodes i):=by rw[a5h ag];simp
   have aY:a9n c.nodes i=if a1l x.kind=true then x.ins.length else 0:=by unfold a9n;rw[a15 hx,a1o hx]
   have eJ:((a3a c.nodes i).map a0d).set i [AV.int .i64 (a9n c.nodes i)]=(a3a c.nodes (i+1)).map a0d:=by rw[←a7,f3y];rfl
   by_cases dv:a1l x.kind=true
   ·rw[f1r dv]at aY;rw[aY]at eJ gU fj;by_cases hz:x.ins.length=0
    ·rw[f1r hz]at fj;have ey:(x.ins.length:Int)=0:=by omega
     rw[hz]at eJ gU;generalize a3z c.nodes i=l at dD fj;cases l with
     |nil=>
      (repeat first|simp only[ww]|(apply xa;simp+decide only[go_sem,c1,ag,hx,hw,bV,dv,bl,iP,eJ,gU,hz,e9p,a0q,a0r];rfl;kernel_rfl))
      refine a4g (i+1) ?_ (by omega) (by omega);rw[fj]
      (simp+decide only[go_sem,a03,a00,e9p,e9q,e12,a06,a07,f0g,a1u,a32]<;>rfl)
     |cons a r=>
      simp only[e9m]at dD;have iy:r.length+1+1≤1000000000:=by omega
      (repeat first|simp only[ww]|(apply xa;simp+decide only[go_sem,c1,ag,hx,hw,bV,dv,bl,iP,eJ,gU,hz,e12,a06,a07,iy,e9m];rfl;kernel_rfl))
      refine a4g (i+1) ?_ (by omega) (by omega);rw[fj]
      (simp+decide only[go_sem,a03,a00,f0k,e12,a06,a07,a1u,a32,e9m]<;>rfl)
    ·rw[f0j hz]at fj;have ey:¬(x.ins.length:Int)=0:=by omega
     generalize a3z c.nodes i=l at dD fj;cases l with
     |nil=>
      (repeat first|simp only[ww]|(apply xa;simp+decide only[go_sem,c1,ag,hx,hw,bV,dv,bl,iP,eJ,gU,ey,e9p,a0q,a0r];rfl;kernel_rfl))
      refine a4g (i+1) ?_ (by omega) (by omega);rw[fj]
      (simp+decide only[go_sem,a03,a00,e9p,a0q,a0r,a1u,a32]<;>rfl)
     |cons a r=>
      (repeat first|simp only[ww]|(apply xa;simp+decide only[go_sem,c1,ag,hx,hw,bV,dv,bl,iP,eJ,gU,ey,e12,a06,a07];rfl;kernel_rfl))
      refine a4g (i+1) ?_ (by omega) (by omega);rw[fj]
      (simp+decide only[go_sem,a03,a00,e12,a06,a07,a1u,a32]<;>rfl)
   ·have dv:a1l x.kind=false:=by simpa using dv
    rw[dv]at aY;have aY:a9n c.nodes i=0:=aY;rw[aY,f1r rfl]at fj;have bS:=c2l ag aY
    ·
     generalize a3z c.nodes i=l at dD fj;cases l with
     |nil=>
      (repeat first|simp only[ww]|(apply xa;simp+decide only[go_sem,c1,ag,hx,hw,bV,dv,bl,iP,e9p,a0q,a0r];rfl;kernel_rfl))
      refine a4g (i+1) ?_ (by omega) (by omega);rw[fj,←bS]
      (simp+decide only[go_sem,a03,a00,e9p,e9q,e12,a06,a07,f0g,a1u,a32]<;>rfl)
     |cons a r=>
      simp only[e9m]at dD;have iy:r.length+1+1≤1000000000:=by omega
      (repeat first|simp only[ww]|(apply xa;simp+decide only[go_sem,c1,ag,hx,hw,bV,dv,bl,iP,e12,a06,a07,iy,e9m];rfl;kernel_rfl))
      refine a4g (i+1) ?_ (by omega) (by omega);rw[fj,←bS]
      (simp+decide only[go_sem,a03,a00,f0k,e12,a06,a07,a1u,a32,e9m]<;>rfl)
  ·obtain rfl:i=c.nodes.length:=by omega
   have c1:¬(c.nodes.length:Int)<c.nodes.length:=by omega
   have hK:=Kahn.start c.nodes;generalize a3z c.nodes c.nodes.length=ready at hK;generalize a3a c.nodes c.nodes.length=left at hK
   (repeat first|simp only[ww]|(apply xa;simp+decide only[go_sem,c1,ln];rfl;kernel_rfl))
   refine a1x kp45_2 (JL2 c fo) (c.nodes.length-0) ?_ ?_
   ·refine⟨_,_,?_,List.replicate c.nodes.length 0,left,ready,0,rfl,rfl,rfl,hK,by simp,by simp,Lev.start _ _ _⟩;cases ready with
    |nil=>(simp+decide only[go_sem,a03,a00,e9p,a0q,a0r,a1u,a32]<;>rfl)
    |cons a r=>(simp+decide only[go_sem,a03,a00,e12,a06,a07,a1u,a32]<;>rfl)
   ·rintro n F H ⟨out,left,ready,done,rfl,rfl,rfl,hK,dS,eC,hV⟩
    have au:ready≠[]:=by
     rintro rfl
     have qt:done=0:=by have:=hK.dle;simpa using this
     subst qt;have h1:c.nodes.length≤0:=hK.all h.acyc;have h2:=h.pos;omega
    have gC:=hK.bound;have gA:=hK.dle;have cM:ready.map a0d≠[]:=by simpa using au
    rw[b3w 3 cM,b3x 1 cM,c11];have mJ:=wI1 (n:=done) (by omega);have bl:=hK.ll;by_cases ag:done<ready.length
    ·obtain⟨x,hx⟩:∃x,ready[done]?=some x:=⟨_,z9e ag⟩
     have oF:=hK.rn x (c10 hx);have c1:(done:Int)<ready.length:=by omega
     obtain⟨L,hL⟩:∃L,fo[x]?=some L:=⟨_,z9e (by rw[dO.len];exact oF)⟩
     have uf:=dO.node hL (f1u _);have uJ:=dO.total hL hn (λy hy=>h.insl hy);have og:∀a,a<c.nodes.length→cnt L a=(a1y c.nodes a).count x:=λa ha=>by rw[dO.num x L hL a,f1r ha]
     have hg:=e0w hL oF;cases hLL:L with
     |nil=>
      subst hLL;simp only[e9p,slF]at hg
      (repeat first|simp only[ww]|(apply xa;simp+decide only[go_sem,c1,ag,hx,mJ,hg];rfl;kernel_rfl))
      refine a0p (c.nodes.length-(done+1)) (by omega) ⟨_,_,?_,out,left,ready,done+1,rfl,rfl,rfl,hK.next hx og,dS,λv hv=>by have:=eC v hv;omega,hV.next hx og⟩;rw[b3w 3 cM,b3x 1 cM]
      (simp+decide only[go_sem,a03,a00,a1u,a32]<;>rfl)
     |cons l0 lr=>
      rw[hLL]at hg;simp only[e12,slF]at hg;rw[←e12,←hLL]at hg;have uK:L.length≠0:=by rw[hLL];simp
      have ug:¬(L.length:Int)=0:=by omega
      have oe:(L.map a80).length=L.length:=c11 ..
      (repeat first|simp only[ww]|(apply xa;simp+decide only[go_sem,c1,ag,hx,mJ,hg,ug,oe];rfl;kernel_rfl))
      refine a1x kp45_4 (JL4 c fo done x L) (L.length-0) ?_ ?_
      ·refine⟨_,_,?_,out,left,ready,0,rfl,f0h _,rfl,rfl,by rw[f2q];exact hK,hx,dS,λv hv=>by have:=eC v hv;omega,by rw[f2q];exact hV⟩;rw[b3w 3 cM,b3x 1 cM]
       (simp+decide only[go_sem,a03,a00,a1u,a32]<;>rfl)<;>rfl
      ·clear hK gC gA cM bl eC dS hx ag c1 au hV
       rintro n F H ⟨out,left,ready,q,rfl,hq,rfl,rfl,hK,hx,dS,eC,hV⟩
       have gC:=hK.bound;have nG:=(e9k.1 hx).1;have au:ready≠[]:=by rintro rfl;simp at nG
       have cM:ready.map a0d≠[]:=by simpa using au
       rw[b3w 3 cM,b3x 1 cM,c11];have bl:=hK.ll;have po:=wI1 (n:=q) (by omega);by_cases kS:q<L.length
       ·obtain⟨l,hl⟩:∃l,L[q]?=some l:=⟨_,z9e kS⟩
        obtain⟨a,p⟩:=l;have i3:a<c.nodes.length:=uf (a,p) (c10 hl);obtain⟨y,hy⟩:∃y,c.nodes[a]?=some y:=⟨_,z9e i3⟩
        have c2:(q:Int)<L.length:=by omega
        have k14:=h.kind y (c10 hy);have bV:=λH=>b4g (d:=false) H y.kind (by omega);have ht:=a1d hl;have pY:(L.map a80)[q]?=some [.int .i64 a,.int .i64 p]:=by rw[f0d,hl];rfl
        by_cases dv:a1l y.kind=true
        ·have fP:a1l (a0l c.nodes a)=true:=by rw[a15 hy];exact dv
         have gB:Pc.cnt (L.take q++[(a,p)]) a≤b94 c.nodes ready done a:=by refine f7j ?_ (d9t hK.nd hx);rw[←og a i3,←ht];unfold Pc.cnt;exact List.Sublist.count_le _ ((List.take_sublist _ _).map _)
         have fl:=hK.pos i3 fP gB;have iE:a∉ready:=λhm=>by have:=(hK.zero a i3).1 hm;omega
         have eu:=hK.dec i3 fP gB;rw[←ht]at eu;obtain⟨va,fJ⟩:∃v,out[a]?=some v:=⟨_,z9e (by omega)⟩
         obtain⟨vx,ja⟩:∃v,out[x]?=some v:=⟨_,z9e (by omega)⟩
         obtain⟨w,hw⟩:∃v,left[a]?=some v:=⟨_,z9e (by omega)⟩
         have rg:left.getD a 0=w:=by rw[List.getD,hw];rfl
         rw[rg]at fl eu;have bx:=eC vx (c10 ja);have ba:=eC va (c10 fJ);have jR:=wI1 (n:=vx) (by omega);have e7:IntKind.i64.wrap ((w:Int)-1)=((w-1:Nat):Int):=by
          have fI:w≤100000:=by have h1:=hK.eq a i3 fP;rw[rg]at h1;have h2:b94 c.nodes ready done a≤(a1y c.nodes a).length:=List.length_filter_le _ _;rw[a1o hy]at h2;have h3:=h.insl (c10 hy);omega
          rw[w64 (by omega) (by omega)];omega
         have ng:d6u (.int .i64 va) [.int .i64 ((vx+1:Nat):Int)]=some (.int .i64 ((max va (vx+1):Nat):Int)):=d6t _ _;have ry:(out.map a0d).set a [AV.int .i64 ((max va (vx+1):Nat):Int)]=(out.set a (max va (vx+1))).map a0d:=by rw[f3y];rfl
         have rz:(left.map a0d).set a [AV.int .i64 ((w-1:Nat):Int)]=(left.set a (w-1)).map a0d:=by rw[f3y];rfl
         have rX:(left.set a (w-1))[a]?=some (w-1):=by rw[f2v];simp;omega
         have bH:(left.set a (w-1)).length=c.nodes.length:=by rw[f2r];exact bl
         have oO:(out.set a (max va (vx+1))).length=c.nodes.length:=by rw[f2r];exact dS
         have m6:∀v∈out.set a (max va (vx+1)),v≤300*done+(q+1):=by
          intro v hv;rcases f3j hv with hv|rfl
          ·have:=eC v hv;omega
          ·omega
         have uI:done<c.nodes.length:=by omega
         have tX:a<left.length:=by omega
         have kC:x<out.length:=by omega
         by_cases hz:w-1=0
         ·rw[f1r hz]at eu;have ey:decide (((w-1:Nat):Int)=0)=true:=f2x (by omega);have iy:ready.length+1≤1000000000:=by omega
          have fU:(ready++[a])[done]?=some x:=by rw[f0i nG];exact hx
          (repeat first|simp only[ww]|(apply xa;simp+decide only[go_sem,c2,kS,pY,hy,bV,dv,po,i3,fJ,ja,hw,dS,bl,oF,jR,e7,ng,ry,rz,rX,bH,oO,ey,iy];rfl;kernel_rfl))
          refine a0p (L.length-(q+1)) (by omega) ⟨_,_,?_,out.set a (max va (vx+1)),left.set a (w-1),ready++[a],q+1,rfl,kS,rfl,rfl,eu,fU,oO,m6,by rw[ht];exact hV.dec hx iE fJ ja (.inr rfl)⟩
          (simp+decide only[go_sem,a03,a00,b88,d5b,a1u,a32]<;>rfl)<;>rfl
         ·rw[f0j hz]at eu;have ey:¬((w-1:Nat):Int)=0:=by omega
          (repeat first|simp only[ww]|(apply xa;simp+decide only[go_sem,c2,kS,pY,hy,bV,dv,po,i3,fJ,ja,hw,dS,bl,oF,jR,e7,ng,ry,rz,rX,bH,oO,ey];rfl;kernel_rfl))
          refine a0p (L.length-(q+1)) (by omega) ⟨_,_,?_,out.set a (max va (vx+1)),left.set a (w-1),ready,q+1,rfl,kS,rfl,rfl,eu,hx,oO,m6,by rw[ht];exact hV.dec hx iE fJ ja (.inl rfl)⟩;rw[b3w 3 cM,b3x 1 cM]
          (simp+decide only[go_sem,a03,a00,a1u,a32]<;>rfl)<;>rfl
        ·have dv:a1l y.kind=false:=by simpa using dv
         (repeat first|simp only[ww]|(apply xa;simp+decide only[go_sem,c2,kS,pY,hy,bV,dv,po,i3];rfl;kernel_rfl))
         refine a0p (L.length-(q+1)) (by omega) ⟨_,_,?_,out,left,ready,q+1,rfl,kS,rfl,rfl,by rw[ht];exact hK.skip (by rw[a15 hy];exact dv),hx,dS,λv hv=>by have:=eC v hv;omega,by rw[ht];exact hV.skip (by rw[a15 hy];exact dv)⟩;rw[b3w 3 cM,b3x 1 cM]
         (simp+decide only[go_sem,a03,a00,a1u,a32]<;>rfl)<;>rfl
       ·obtain rfl:q=L.length:=by omega
        have c2:¬(L.length:Int)<L.length:=by omega
        rw[f3a]at hK hV
        (repeat first|simp only[ww]|(apply xa;simp+decide only[go_sem,c2];rfl;kernel_rfl))
        refine a0p (c.nodes.length-(done+1)) (by omega) ⟨_,_,?_,out,left,ready,done+1,rfl,rfl,rfl,hK.next hx og,dS,λv hv=>by have:=eC v hv;omega,hV.next hx og⟩;rw[b3w 3 cM,b3x 1 cM]
        (simp+decide only[go_sem,a03,a00,a1u,a32]<;>rfl)<;>rfl
    ·obtain rfl:done=ready.length:=by omega
     have c1:¬(ready.length:Int)<ready.length:=by omega
     have aR:=hK.all h.acyc;have c2:¬(ready.length:Int)<c.nodes.length:=by omega
     (repeat first|simp only[ww]|(apply xa;simp+decide only[go_sem,c1,c2];rfl;kernel_rfl))
     refine a1v (vs:=[.slice 1 0 c.nodes.length (some c.nodes.length),.int .i64 0]) (r:=(_,[])) (by simp+decide only[go_sem]) ?_ ⟨out,dS,λv hv=>by have:=eC v hv;omega,hV.all hK aR,rfl⟩;show a10 false 0 (.tuple [.slice 1 0 c.nodes.length (some c.nodes.length),.int .i64 0]) _=_;rw[←dS];simp+decide only[go_sem,d5g]
theorem b3k(c:Cir)(h:c.wf):∃lv:List Nat,lv.length=c.nodes.length∧(∀v∈lv,v≤100000)∧Rises c.nodes lv∧∀(d:Bool) (H:a02),a09 L.env d (sem L.env Mf) (.func (.func 45) [] []) [.agg c.enc] H=some (.tuple [.islice (lv.map a0d) (some c.nodes.length),.int .i64 0],H,[]):=by obtain⟨r,⟨lv,h1,h2,hR,rfl⟩,h3⟩:=d03 c h;exact⟨lv,h1,h2,hR,λd H=>a04 (by kernel_rfl) (by kernel_rfl) rfl (a5r c) h3 rfl⟩
theorem c9i(c:Cir)(h:c.wf):sem L.env Mf 17 [.agg c.enc] []=some (.int .i64 0,[]):=by
 obtain⟨lv,_,_,_,hc⟩:=b3k c h;have hc:=hc false;simp only[Cir.enc]at hc⊢
 (refine sv Tryz.f17 ?_;simp only[Tryz.f17,gS])
 (repeat first|simp only[ww]|(apply xa;simp+decide only[go_sem,hc];rfl;kernel_rfl))
 (apply fqb;simp+decide only[go_sem]<;>rfl)
theorem a92{d:Bool}(H:a02)(c:Cir)(h:c.wf):a09 L.env d (sem L.env Mf) (.func (.func 17) [] []) [.agg c.enc] H=some (.int .i64 0,H,[]):=a04 (by kernel_rfl) (by kernel_rfl) rfl (a5r c) (c9i c h) rfl
theorem d4r(i:Int):sem L.env Mf 182 [.int .i64 i] []=some (.bool false,[]):=by
 (refine sv Tryz.f182 ?_;simp only[Tryz.f182,gS])
 (repeat first|simp only[ww]|(apply xa;simp+decide only[go_sem];rfl;kernel_rfl))
 (apply fqb;simp+decide only[go_sem]<;>rfl)
theorem c6e{d:Bool}(H:a02)(i:Int):a09 L.env d (sem L.env Mf) (.func (.func 182) [] []) [.int .i64 i] H=some (.bool false,H,[]):=a04 (by kernel_rfl) (by kernel_rfl) rfl rfl (d4r i) rfl
theorem c70(a b:Nat):sem L.env Mf 157 [.int .i64 a,.int .i64 b] []=some (.int .i64 (d89 a b),[]):=by
 have hn:=λH i=>c6e (d:=false) H i;unfold d89;by_cases h1:a<b
 ·have c1:(a:Int)<b:=by omega
  rw[f1r h1]
  (refine sv Tryz.f157 ?_;simp only[Tryz.f157,gS])
  (repeat first|simp only[ww]|(apply xa;simp+decide only[go_sem,hn,c1];rfl;kernel_rfl))
  (apply fqb;simp+decide only[go_sem]<;>rfl)
 have c1:¬(a:Int)<b:=by omega
 rw[f0j h1];by_cases h2:b<a
 ·have c2:(b:Int)<a:=by omega
  rw[f1r h2]
  (refine sv Tryz.f157 ?_;simp only[Tryz.f157,gS])
  (repeat first|simp only[ww]|(apply xa;simp+decide only[go_sem,hn,c1,c2];rfl;kernel_rfl))
  (apply fqb;simp+decide only[go_sem]<;>rfl)
 ·have c2:¬(b:Int)<a:=by omega
  rw[f0j h2]
  (refine sv Tryz.f157 ?_;simp only[Tryz.f157,gS])
  (repeat first|simp only[ww]|(apply xa;simp+decide only[go_sem,hn,c1,c2];rfl;kernel_rfl))
  (apply fqb;simp+decide only[go_sem]<;>rfl)
theorem c14{d:Bool}(H:a02)(a b:Nat):a09 L.env d (sem L.env Mf) (.func (.func 157) [] []) [.int .i64 a,.int .i64 b] H=some (.int .i64 (d89 a b),H,[]):=a04 (by kernel_rfl) (by kernel_rfl) rfl rfl (c70 a b) rfl
def lvO(lv:List Nat):AObj:=.row 1 [[.islice (lv.map a0d) (some lv.length)]]
attribute [go_sem] lvO
theorem a4d(lv:List Nat):FlatR [[AV.islice (lv.map a0d) (some lv.length)]]:=FlatR.cons rfl FlatR.nil
theorem c9a(lv:List Nat)(x y vx vy:Nat)(hx:lv[x]?=some vx)(hy:lv[y]?=some vy):sem L.env Mf 156 [.int .i64 x,.int .i64 y,.ptr 0 0 0] [some (lvO lv)]=some (.int .i64 (d89 vx vy),[some (lvO lv)]):=by
 have hc:=λH=>c14 (d:=true) H vx vy;have h1:=(e9k.1 hx).1;have h2:=(e9k.1 hy).1
 (refine sv Tryz.f156 ?_;simp only[Tryz.f156,gS])
 (repeat first|simp only[ww]|(apply xa;simp+decide only[go_sem,hc,hx,hy,h1,h2];rfl;kernel_rfl))
 (apply fqb;simp+decide only[go_sem]<;>rfl)
theorem c28{d:Bool}{H:a02}{b:Nat}(lv:List Nat)(x y vx vy:Nat)(hx:lv[x]?=some vx)(hy:lv[y]?=some vy)(hb:a01 H b=some (lvO lv)):a09 L.env d (sem L.env Mf) (.func (.func 156) [] [.ptr b 0 0]) [.int .i64 x,.int .i64 y] H=some (.int .i64 (d89 vx vy),H,[b]):=a1q (fs:=[]) (cs:=[.ptr b 0 0]) (ar:=[.int .i64 x,.int .i64 y]) (by kernel_rfl) (by kernel_rfl) rfl hb (a0f (a4d lv)) (FlatO.row (a4d lv)) rfl (ap:=[.int .i64 x,.int .i64 y,.ptr 0 0 0]) (by simp[ren,a4m]) (c9a lv x y vx vy hx hy) rfl
def b2e:AV:=.func (.func 156) [] [.ptr 1 0 0]
def Srt(lv data:List Nat):Prop:=SortI (λv=>lv.getD v 0) data data.length
def JI0(lv d0:List Nat)(n:Nat)(F:Frm)(H:a02):Prop:=∃(i:Nat) (data:List Nat),n=d0.length-i∧1≤i∧
 F=[(0,.slice 0 0 d0.length (some d0.length)),(1,.int .i64 0),(2,.int .i64 d0.length),(3,b2e),(8,.int .i64 i)]∧H=[some (.row 1 (data.map a0d)),some (lvO lv)]∧data.Perm d0∧SortI (λv=>lv.getD v 0) data i
def JI2(lv d0:List Nat)(i:Nat)(n:Nat)(F:Frm)(H:a02):Prop:=∃(j:Nat) (data:List Nat),n=j∧j<d0.length∧
 F=[(0,.slice 0 0 d0.length (some d0.length)),(1,.int .i64 0),(2,.int .i64 d0.length),(3,b2e),(8,.int .i64 i),(9,.int .i64 j)]∧H=[some (.row 1 (data.map a0d)),some (lvO lv)]∧data.Perm d0∧j≤i∧SortJ (λv=>lv.getD v 0) data i j
theorem c0g(lv d0:List Nat)(hl:d0.length≤1000)(hd:∀v∈d0,v<lv.length):∃r:AV×a02,(∃data:List Nat,data.Perm d0∧Srt lv data∧r=(.tuple [],[some (.row 1 (data.map a0d)),some (lvO lv)]))∧
 sem L.env Mf 199 [.slice 0 0 d0.length (some d0.length),.int .i64 0,.int .i64 d0.length,b2e] [some (.row 1 (d0.map a0d)),some (lvO lv)]=some r:=by
 unfold b2e
 (refine svE Tryz.f199 ?_;simp only[Tryz.f199,gS])
 (repeat first|simp only[ww]|(apply xa;simp+decide only[go_sem];rfl;kernel_rfl))
 refine a1x kp199_0 (JI0 lv d0) (d0.length-1) ?_ ?_
 ·refine⟨_,_,?_,1,d0,rfl,f1u _,rfl,rfl,List.Perm.refl _,SortI.one⟩;unfold b2e
  (simp+decide only[go_sem,a03,a00,a1u,a32]<;>rfl)<;>rfl
 ·rintro n F H ⟨i,data,rfl,tK,rfl,rfl,hp,hS⟩
  unfold b2e;have hw:=wI1 (n:=i) ;by_cases ag:i<d0.length
  ·have c1:(i:Int)<d0.length:=by omega
   have hw:=wI1 (n:=i) (by omega)
   (repeat first|simp only[ww]|(apply xa;simp+decide only[go_sem,c1];rfl;kernel_rfl))
   refine a1x kp199_2 (JI2 lv d0 i) i ?_ ?_
   ·refine⟨_,_,?_,i,data,rfl,ag,rfl,rfl,hp,f1u _,hS.start⟩;unfold b2e
    (simp+decide only[go_sem,a03,a00,a1u,a32]<;>rfl)<;>rfl
   ·rintro n F H ⟨j,data,rfl,hj,rfl,rfl,hp,gv,hS⟩
    unfold b2e;have ai:=hp.length_eq;cases n with
    |zero=>
     (repeat first|simp only[ww]|(apply xa;simp+decide only[go_sem];rfl;kernel_rfl))
     refine a0p (d0.length-(i+1)) (by omega) ⟨_,_,?_,i+1,data,rfl,by omega,rfl,rfl,hp,hS.stop (.inl rfl)⟩;unfold b2e
     (simp+decide only[go_sem,a03,a00,a1u,a32,hw]<;>rfl)<;>rfl
    |succ j=>
     obtain⟨x,hx⟩:∃x,data[j+1]?=some x:=⟨_,z9e (by omega)⟩
     obtain⟨y,hy⟩:∃y,data[j]?=some y:=⟨_,z9e (by omega)⟩
     obtain⟨vx,ja⟩:∃v,lv[x]?=some v:=⟨_,z9e (hd x (hp.mem_iff.1 (c10 hx)))⟩
     obtain⟨vy,rj⟩:∃v,lv[y]?=some v:=⟨_,z9e (hd y (hp.mem_iff.1 (c10 hy)))⟩
     have c0:(0:Int)<((j+1:Nat):Int):=by omega
     have iK:j<d0.length:=by omega
     have rV:j+1<data.length:=by omega
     have rU:j<data.length:=by omega
     have aT:IntKind.i64.wrap (((j+1:Nat):Int)-1)=(j:Int):=by rw[w64 (by omega) (by omega)];omega
     have ae:=c28 (d:=true) (H:=[some (.row 1 (data.map a0d)),some (lvO lv)]) (b:=1) lv x y vx vy ja rj rfl;simp only[lvO]at ae;have kx:lv.getD x 0=vx:=by rw[List.getD,ja];rfl
     have ky:lv.getD y 0=vy:=by rw[List.getD,rj];rfl
     by_cases cV:d89 vx vy<0
     ·have mS:(((data.map a0d).set (j+1) [AV.int .i64 y]).set j [AV.int .i64 x])=((data.set (j+1) y).set j x).map a0d:=by rw[f3y,f3y];rfl
      have r6:((data.map a0d).set (j+1) [AV.int .i64 y])[j]?=some [AV.int .i64 y]:=by rw[List.getElem?_set_ne (by omega),f0d,hy];rfl
      (repeat first|simp only[ww]|(apply xa;simp+decide only[go_sem,c0,hj,iK,rV,rU,hx,hy,aT,ae,cV,ai,f2r,mS,r6];rfl;kernel_rfl))
      refine a0p j (by omega) ⟨_,_,?_,j,_,rfl,iK,rfl,rfl,(c84 hx hy).trans hp,by omega,hS.swap gv hy hx (by show lv.getD x 0<lv.getD y 0;rw[kx,ky];unfold d89 at cV;split at cV<;>first|assumption|(exfalso;split at cV<;>omega))⟩;unfold b2e
      (simp+decide only[go_sem,a03,a00,a1u,a32,mS]<;>rfl)<;>rfl
     ·(repeat first|simp only[ww]|(apply xa;simp+decide only[go_sem,c0,hj,iK,rV,rU,hx,hy,aT,ae,cV,ai];rfl;kernel_rfl))
      refine a0p (d0.length-(i+1)) (by omega) ⟨_,_,?_,i+1,data,rfl,by omega,rfl,rfl,hp,hS.stop (.inr ⟨y,x,hy,hx,by show lv.getD y 0≤lv.getD x 0;rw[kx,ky];unfold d89 at cV;split at cV<;>omega⟩)⟩;unfold b2e
      (simp+decide only[go_sem,a03,a00,a1u,a32,hw]<;>rfl)<;>rfl
  ·have c1:¬(i:Int)<d0.length:=by omega
   (repeat first|simp only[ww]|(apply xa;simp+decide only[go_sem,c1];rfl;kernel_rfl))
   refine a8r (vs:=[]) (r:=(_,[_,_])) (by simp+decide only[go_sem]) ?_ ⟨data,hp,λp q x y h1 h2=>hS p q x y h1 (by have:=hp.length_eq;omega),rfl⟩;simp+decide only[go_sem,a32]<;>rfl
def d3j(b:Nat):AV:=.func (.func 156) [] [.ptr b 0 0]
theorem a31(l:List Nat):FlatR (l.map a0d):=FlatR.map λ_=>rfl
theorem b54(lv d0:List Nat)(hl:d0.length≤1000)(hd:∀v∈d0,v<lv.length):∃data:List Nat,data.Perm d0∧Srt lv data∧
 a09 L.env false (sem L.env Mf) (.func (.func 199) [] []) [.slice 0 0 d0.length (some d0.length),.int .i64 0,.int .i64 d0.length,b2e] [some (.row 1 (d0.map a0d)),some (lvO lv)]=some (.tuple [],[some (.row 1 (data.map a0d)),some (lvO lv)],[0,1]):=by
 obtain⟨r,⟨data,hp,hS,rfl⟩,h⟩:=c0g lv d0 hl hd;refine⟨data,hp,hS,?_⟩;exact b03 (a:=0) (b:=1) (fs:=[]) (cs:=[]) (ar:=[.slice 0 0 d0.length (some d0.length),.int .i64 0,.int .i64 d0.length,b2e]) (H:=[some (.row 1 (d0.map a0d)),some (lvO lv)]) (by kernel_rfl) (by kernel_rfl) rfl (by decide) rfl rfl (a0f (a31 d0)) (a0f (a4d lv)) (FlatO.row (a31 d0)) (FlatO.row (a4d lv)) rfl rfl h (FlatO.row (a31 data)) (FlatO.row (a4d lv)) rfl
theorem c8e(lv d0:List Nat)(hl:d0.length≤19)(hd:∀v∈d0,v<lv.length):∃r:AV×a02,(∃data:List Nat,data.Perm d0∧Srt lv data∧r=(.tuple [],[some (.row 1 (data.map a0d)),some (lvO lv)]))∧
 sem L.env Mf 185 [.slice 0 0 d0.length (some d0.length),.int .i64 d0.length,b2e] [some (.row 1 (d0.map a0d)),some (lvO lv)]=some r:=by
 obtain⟨data,hp,hS,hc⟩:=b54 lv d0 (by omega) hd;have c1:¬(20:Int)≤d0.length:=by omega
 have c2:¬(20:Int)<d0.length:=by omega
 unfold b2e at hc⊢;simp only[lvO]at hc⊢
 (refine svE Tryz.f185 ?_;simp only[Tryz.f185,gS])
 (repeat first|simp only[ww]|(apply xa;simp+decide only[go_sem,c1];rfl;kernel_rfl))
 refine a1j (σ:=Nat) kp185_0 (λi=>[(0,.slice 0 0 d0.length (some d0.length)),(1,.int .i64 d0.length),(2,b2e),(6,.int .i64 20),(7,.int .i64 0),(8,.int .i64 20)])
  (λi=>[some (.row 1 (d0.map a0d)),some (.row 1 [[.islice (lv.map a0d) (some lv.length)]])]) (λi=>0) (λi=>True) 0 ?_ trivial ?_
 ·unfold b2e
  (simp+decide only[go_sem,a03,a00,a1u,a32]<;>rfl)<;>rfl
 ·intro i _;unfold b2e
  (repeat first|simp only[ww]|(apply xa;simp+decide only[go_sem,c1,hc];rfl;kernel_rfl))
  refine a1j (σ:=Nat) kp185_2 (λi=>[(0,.slice 0 0 d0.length (some d0.length)),(1,.int .i64 d0.length),(2,b2e),(6,.int .i64 20)])
   (λi=>[some (.row 1 (data.map a0d)),some (.row 1 [[.islice (lv.map a0d) (some lv.length)]])]) (λi=>0) (λi=>True) 0 ?_ trivial ?_
  ·unfold b2e
   (simp+decide only[go_sem,a03,a00,a1u,a32]<;>rfl)<;>rfl
  ·intro i _;unfold b2e
   (repeat first|simp only[ww]|(apply xa;simp+decide only[go_sem,c2];rfl;kernel_rfl))
   refine a8r (vs:=[]) (r:=(_,[_,_])) (by simp+decide only[go_sem]) ?_ ⟨data,hp,hS,rfl⟩;simp+decide only[go_sem,a32]<;>rfl
theorem b7e(lv d0:List Nat)(hl:d0.length≤19)(hd:∀v∈d0,v<lv.length):∃r:AV×a02,(∃data:List Nat,data.Perm d0∧Srt lv data∧r=(.tuple [],[some (.row 1 (data.map a0d)),some (lvO lv)]))∧
 sem L.env Mf 155 [.slice 0 0 d0.length (some d0.length),b2e] [some (.row 1 (d0.map a0d)),some (lvO lv)]=some r:=by
 obtain⟨r,⟨data,hp,hS,rfl⟩,h⟩:=c8e lv d0 hl hd;have hc:=b03 (E:=L.env) (ah:=false) (call:=sem L.env Mf) (g:=185) (a:=0) (b:=1) (fs:=[]) (cs:=[]) (ar:=[.slice 0 0 d0.length (some d0.length),.int .i64 d0.length,b2e]) (H:=[some (.row 1 (d0.map a0d)),some (lvO lv)]) (v':=.tuple []) (by kernel_rfl) (by kernel_rfl) rfl (by decide) rfl rfl (a0f (a31 d0)) (a0f (a4d lv)) (FlatO.row (a31 d0)) (FlatO.row (a4d lv)) rfl rfl h (FlatO.row (a31 data)) (FlatO.row (a4d lv)) rfl;unfold b2e at hc⊢;simp only[lvO]at hc⊢
 (refine svE Tryz.f155 ?_;simp only[Tryz.f155,gS])
 (repeat first|simp only[ww]|(apply xa;simp+decide only[go_sem,hc];rfl;kernel_rfl))
 refine a8r (vs:=[]) (r:=(_,[_,_])) (by simp+decide only[go_sem]) ?_ ⟨data,hp,hS,rfl⟩;simp+decide only[go_sem,a32]<;>rfl
theorem b2n(lv d0:List Nat)(hl:d0.length≤19)(hd:∀v∈d0,v<lv.length):∃data:List Nat,data.Perm d0∧Srt lv data∧∀(d:Bool) (H:a02) (a b:Nat),a≠b→a01 H a=some (.row 1 (d0.map a0d))→a01 H b=some (lvO lv)→
 a09 L.env d (sem L.env Mf) (.func (.func 155) [] []) [.slice a 0 d0.length (some d0.length),d3j b] H=some (.tuple [],(H.set a (some (.row 1 (data.map a0d)))).set b (some (lvO lv)),[a,b]):=by
 obtain⟨r,⟨data,hp,hS,rfl⟩,h⟩:=b7e lv d0 hl hd;refine⟨data,hp,hS,λd H a b aX ha hb=>?_⟩;exact b03 (a:=a) (b:=b) (fs:=[]) (cs:=[]) (ar:=[.slice a 0 d0.length (some d0.length),d3j b]) (H:=H) (by kernel_rfl) (by kernel_rfl) rfl aX ha hb (a0f (a31 d0)) (a0f (a4d lv)) (FlatO.row (a31 d0)) (FlatO.row (a4d lv)) rfl
  (by simp only[e9q,e9n,e12,e9p,c23,d3j,d3u,c8v aX];rfl) h (FlatO.row (a31 data)) (FlatO.row (a4d lv)) rfl
theorem d41(c:Cir)(h:c.wf):∃r:AV×a02,(∃ord:List Nat,ord.Perm (List.range c.nodes.length)∧e3l c.nodes ord∧r=(.tuple [.islice (ord.map a0d) (some c.nodes.length),.int .i64 0],[]))∧sem L.env Mf 119 [.agg c.enc] []=some r:=by
 have hn:=h.len;obtain⟨lv,l9,tE,hR,hc⟩:=b3k c h;have hc:=hc false;have aO:c.nodes.length≤1000000000:=by omega
 obtain⟨data,hp,hS,hs⟩:=b2n lv (List.range c.nodes.length) (by simp;omega) (λv hv=>by rw[l9];simpa using hv);have gA:data.length=c.nodes.length:=by rw[hp.length_eq];simp
 rw[f3b]at hs;simp only[Cir.enc]at hc⊢
 (refine svE Tryz.f119 ?_;simp only[Tryz.f119,gS])
 (repeat first|simp only[ww]|(apply xa;simp+decide only[go_sem,hc,aO];rfl;kernel_rfl))
 refine a1j (σ:=Nat) kp119_0 (λi=>[(4,.ptr 0 0 0),(6,.slice 1 0 c.nodes.length (some c.nodes.length)),(21,.int .i64 c.nodes.length),(22,.int .i64 i)])
  (λi=>[some (lvO lv),some (.row 1 ((List.range i++List.replicate (c.nodes.length-i) 0).map a0d))]) (λi=>c.nodes.length-i) (λi=>i≤c.nodes.length) 0 ?_ (f0h _) ?_
 ·rw[lvO,l9]
  (simp+decide only[go_sem,a03,a00,f1m,a1u,a32,List.range_zero,e9q,Nat.sub_zero]<;>rfl)<;>rfl
 ·intro i hi;rw[lvO];by_cases ag:i<c.nodes.length
  ·have c1:(i:Int)<c.nodes.length:=by omega
   have hw:=wI1 (n:=i) (by omega);have iH:(List.range i++List.replicate (c.nodes.length-i) 0).length=c.nodes.length:=by simp;omega
   have hg:(List.range i++List.replicate (c.nodes.length-i) 0)[i]?=some 0:=by rw[f1n (by simp),f3b,Nat.sub_self,f3m,f1r (by omega)]
   have aw:((List.range i++List.replicate (c.nodes.length-i) 0).map a0d).set i [AV.int .i64 i]=(List.range (i+1)++List.replicate (c.nodes.length-(i+1)) 0).map a0d:=by
    have e:c.nodes.length-i=(c.nodes.length-(i+1))+1:=by omega
    rw[e,f6o];rw[show [AV.int IntKind.i64 (i:Int)]=a0d i from rfl,←f3y,List.set_append_right _ _ (by simp),List.range_succ,e9o];simp
   generalize hA:(List.range i++List.replicate (c.nodes.length-i) 0)=A at iH hg aw
   (repeat first|simp only[ww]|(apply xa;simp+decide only[go_sem,c1,ag,hw,iH,hg,aw];rfl;kernel_rfl))
   refine a4g (i+1) ?_ (by omega) (by omega)
   (simp+decide only[go_sem,a03,a00,a1u,a32]<;>rfl)<;>rfl
  ·obtain rfl:i=c.nodes.length:=by omega
   have c1:¬(c.nodes.length:Int)<c.nodes.length:=by omega
   rw[Nat.sub_self,List.replicate_zero,e9n];have kN:=hs false [some (lvO lv),some (.row 1 ((List.range c.nodes.length).map a0d))] 1 0 (by decide) rfl rfl;simp only[lvO,d3j]at kN
   (repeat first|simp only[ww]|(apply xa;simp+decide only[go_sem,c1,kN];rfl;kernel_rfl))
   refine a1v (vs:=[.slice 1 0 c.nodes.length (some c.nodes.length),.int .i64 0]) (r:=(_,[])) (by simp+decide only[go_sem]) ?_ ⟨data,hp,hR.topo hp hS.pairwise h.inAt,rfl⟩;show a10 false 0 (.tuple [.slice 1 0 c.nodes.length (some c.nodes.length),.int .i64 0]) _=_;rw[←gA];simp+decide only[go_sem,d5g]
theorem c62(c:Cir)(h:c.wf):∃ord:List Nat,ord.Perm (List.range c.nodes.length)∧e3l c.nodes ord∧∀(d:Bool) (H:a02),a09 L.env d (sem L.env Mf) (.func (.func 119) [] []) [.agg c.enc] H=some (.tuple [.islice (ord.map a0d) (some c.nodes.length),.int .i64 0],H,[]):=by obtain⟨r,⟨ord,h1,h2,rfl⟩,h3⟩:=d41 c h;exact⟨ord,h1,h2,λd H=>a04 (by kernel_rfl) (by kernel_rfl) rfl (a5r c) h3 rfl⟩
theorem d11(c:Cir)(h:c.wf):sem L.env Mf 47 [.agg c.enc] []=some (.int .i64 0,[]):=by
 have hc:=λH=>a92 (d:=false) H c h;simp only[Cir.enc]at hc⊢
 (refine sv Tryz.f47 ?_;simp only[Tryz.f47,gS])
 (repeat first|simp only[ww]|(apply xa;simp+decide only[go_sem,hc];rfl;kernel_rfl))
 (apply fqb;simp+decide only[go_sem]<;>rfl)
theorem c2s{d:Bool}(H:a02)(c:Cir)(h:c.wf):a09 L.env d (sem L.env Mf) (.func (.func 47) [] []) [.agg c.enc] H=some (.int .i64 0,H,[]):=a04 (by kernel_rfl) (by kernel_rfl) rfl (a5r c) (d11 c h) rfl
theorem d5k(c:Cir)(h:c.wf)(n:Nat)(p:Int)(hn:n<c.nodes.length)(hp:-1≤p)(cH:p<(a1y c.nodes n).length):sem L.env Mf 48 [.agg c.enc,.agg [.int .i64 n,.int .i64 p]] []=some (.bool true,[]):=by
 obtain⟨x,hx⟩:∃x,c.nodes[n]?=some x:=⟨_,z9e hn⟩
 rw[a1o hx]at cH;have c1:0≤(n:Int):=by omega
 have c2:(n:Int)<c.nodes.length:=by omega
 simp only[Cir.enc]
 (refine sv Tryz.f48 ?_;simp only[Tryz.f48,gS])
 (repeat first|simp only[ww]|(apply xa;simp+decide only[go_sem,c1,c2,hn,hp,cH,hx];rfl;kernel_rfl))
 (apply fqb;simp+decide only[go_sem]<;>rfl)
theorem c6n{d:Bool}(H:a02)(c:Cir)(h:c.wf)(n:Nat)(p:Int)(hn:n<c.nodes.length)(hp:-1≤p)(cH:p<(a1y c.nodes n).length):a09 L.env d (sem L.env Mf) (.func (.func 48) [] []) [.agg c.enc,.agg [.int .i64 n,.int .i64 p]] H=some (.bool true,H,[]):=a04 (by kernel_rfl) (by kernel_rfl) rfl (by simp only[a0c,a1a,Cir.enc,go_sem]) (d5k c h n p hn hp cH) rfl
/- dependence, by the statements -/
theorem c6u(c:Cir)(h:c.wf)(b:Nat)(hb:b<c.nodes.length):∀(k depth a:Nat),c.nodes.length+1≤depth+k→a<c.nodes.length→depth≤100→
 ∃q:Bool,(depth+a≤c.nodes.length→DepOn c.nodes a b→q=true)∧sem L.env Mf 78 [.agg c.enc,.int .i64 a,.int .i64 b,.int .i64 depth] []=some (.bool q,[]):=by
 intro k
 induction k with
 |zero=>
  intro depth a hk ha hd;have hl:=h.len;by_cases aX:a=b
  ·subst aX;refine⟨true,λ_ _=>rfl,?_⟩;simp only[Cir.enc]
   (refine sv Tryz.f78 ?_;simp only[Tryz.f78,gS])
   (repeat first|simp only[ww]|(apply xa;simp+decide only[go_sem];rfl;kernel_rfl))
   (apply fqb;simp+decide only[go_sem]<;>rfl)
  ·refine⟨false,λh1 _=>by omega,?_⟩;have c1:¬(a:Int)=b:=by omega
   have c2:(c.nodes.length:Int)<depth:=by omega
   simp only[Cir.enc]
   (refine sv Tryz.f78 ?_;simp only[Tryz.f78,gS])
   (repeat first|simp only[ww]|(apply xa;simp+decide only[go_sem,c1,c2];rfl;kernel_rfl))
   (apply fqb;simp+decide only[go_sem]<;>rfl)
 |succ k ih=>
  intro depth a hk ha hd;have hl:=h.len;by_cases aX:a=b
  ·subst aX;refine⟨true,λ_ _=>rfl,?_⟩;simp only[Cir.enc]
   (refine sv Tryz.f78 ?_;simp only[Tryz.f78,gS])
   (repeat first|simp only[ww]|(apply xa;simp+decide only[go_sem];rfl;kernel_rfl))
   (apply fqb;simp+decide only[go_sem]<;>rfl)
  have c1:¬(a:Int)=b:=by omega
  by_cases gA:c.nodes.length<depth
  ·refine⟨false,λh1 _=>by omega,?_⟩;have c2:(c.nodes.length:Int)<depth:=by omega
   simp only[Cir.enc]
   (refine sv Tryz.f78 ?_;simp only[Tryz.f78,gS])
   (repeat first|simp only[ww]|(apply xa;simp+decide only[go_sem,c1,c2];rfl;kernel_rfl))
   (apply fqb;simp+decide only[go_sem]<;>rfl)
  have c2:¬(c.nodes.length:Int)<depth:=by omega
  obtain⟨x,hx⟩:∃x,c.nodes[a]?=some x:=⟨_,z9e ha⟩
  by_cases h14:x.kind=14
  ·refine⟨false,λ_ hr=>absurd hr (DepOn.not_dff aX (by rw[a15 hx];exact h14)),?_⟩;have c3:decide ((x.kind:Int)=14)=true:=f2x (by omega);simp only[Cir.enc]
   (refine sv Tryz.f78 ?_;simp only[Tryz.f78,gS])
   (repeat first|simp only[ww]|(apply xa;simp+decide only[go_sem,c1,c2,hx,ha,c3];rfl;kernel_rfl))
   (apply fqb;simp+decide only[go_sem]<;>rfl)
  have c3:¬(x.kind:Int)=14:=by omega
  have dy:=c10 hx;have cW:=h.insl dy;have mJ:=wI1 (n:=depth) (by omega)
  suffices hs:∃r:AV×a02,(∃q:Bool,(depth+a≤c.nodes.length→DepOn c.nodes a b→q=true)∧r=(.bool q,[]))∧sem L.env Mf 78 [.agg c.enc,.int .i64 a,.int .i64 b,.int .i64 depth] []=some r by obtain⟨r,⟨q,h1,rfl⟩,h2⟩:=hs;exact⟨q,h1,h2⟩
  simp only[Cir.enc]at ih⊢
  (refine svE Tryz.f78 ?_;simp only[Tryz.f78,gS])
  (repeat first|simp only[ww]|(apply xa;simp+decide only[go_sem,c1,c2,hx,ha,c3];rfl;kernel_rfl))
  refine a1x kp78_0 (λn F H=>∃i,n=x.ins.length-i∧i≤x.ins.length∧F=[(1,.int .i64 a),(2,.int .i64 b),(3,.int .i64 depth),(4,.ptr 0 0 0),(9,.int .i64 i)]∧
   H=[some (.row 4 [[sl c.nc (c.nodes.map Nd.enc),sl c.mc (c.names.map a1s),.nilslice,sl c.oc (c.outs.map a0d)]])]∧(depth+a≤c.nodes.length→∀m∈x.ins.take i,¬DepOn c.nodes m b)) (x.ins.length-0) ?_ ?_
  ·refine⟨_,_,?_,0,rfl,f0h _,rfl,rfl,by simp⟩
   (simp+decide only[go_sem,a03,a00]<;>rfl)<;>rfl
  ·rintro n F H ⟨i,rfl,hi,rfl,rfl,bU⟩
   by_cases ag:i<x.ins.length
   ·obtain⟨m,hm⟩:∃m,x.ins[i]?=some m:=⟨_,z9e ag⟩
    have dL:=h.ins x dy m (c10 hm);have c4:(i:Int)<x.ins.length:=by omega
    have hw:=wI1 (n:=i) (by omega);obtain⟨q,rC,tl⟩:=ih (depth+1) m (by omega) dL (by omega);have ae:=λH=>a04 (E:=L.env) (ah:=true) (call:=sem L.env Mf) (g:=78) (fs:=[]) (cs:=[]) (ar:=[.agg [sl c.nc (c.nodes.map Nd.enc),sl c.mc (c.names.map a1s),.nilslice,sl c.oc (c.outs.map a0d)],.int .i64 m,.int .i64 b,.int .i64 (depth+1:Nat)]) (H:=H) (by kernel_rfl) (by kernel_rfl) rfl (by simp only[e9q,e9n,a0c,a1a,go_sem]) tl rfl;have pV:depth+a≤c.nodes.length→depth+1+m≤c.nodes.length:=by intro ly;have:=h.acyc a x hx (h.comb_of dy (by omega) h14) m (c10 hm);omega
    cases q with
    |true=>
     (repeat first|simp only[ww]|(apply xa;simp+decide only[go_sem,c4,ag,hx,ha,hm,hw,mJ,ae];rfl;kernel_rfl))
     refine a1v (vs:=[.bool true]) (r:=(_,[])) (by simp+decide only[go_sem]) ?_ ⟨true,λ_ _=>rfl,rfl⟩;simp+decide only[go_sem]
    |false=>
     have hr:depth+a≤c.nodes.length→¬DepOn c.nodes m b:=λly hr=>by have:=rC (pV ly) hr;cases this
     (repeat first|simp only[ww]|(apply xa;simp+decide only[go_sem,c4,ag,hx,ha,hm,hw,mJ,ae];rfl;kernel_rfl))
     refine a0p (x.ins.length-(i+1)) (by omega) ⟨_,_,?_,i+1,rfl,ag,rfl,rfl,?_⟩
     ·(simp+decide only[go_sem,a03,a00]<;>rfl)<;>rfl
     ·intro ly m' aV;rw[a1d hm,f2w]at aV;rcases aV with aV|aV
      ·exact bU ly m' aV
      ·simp only[f1s]at aV;subst aV;exact hr ly
   ·obtain rfl:i=x.ins.length:=by omega
    have c4:¬(x.ins.length:Int)<x.ins.length:=by omega
    (repeat first|simp only[ww]|(apply xa;simp+decide only[go_sem,c4,hx,ha];rfl;kernel_rfl))
    refine a1v (vs:=[.bool false]) (r:=(_,[])) (by simp+decide only[go_sem]) ?_ ⟨false,?_,rfl⟩
    ·simp+decide only[go_sem]
    ·intro ly hr;rw[f3a]at bU;rcases hr.cases with e|⟨_,m,hm,hr⟩
     ·exact absurd e aX
     ·rw[a1o hx]at hm;exact absurd hr (bU ly m hm)
def b18(b:Bool):List AV:=[.bool b]
attribute [go_sem] b18
theorem a9w(l:List Bool):(l.map b18).flatMap a08=[]:=a0e (FlatR.map λ_=>rfl)
theorem b7q(π:Nat→Option Nat)(l:List Bool):(l.map b18).map (λr=>r.map (ren π))=l.map b18:=a0b π (FlatR.map λ_=>rfl)
theorem f09{m:Nat}{d:AV→Option AV}(l:List Bool):a8m m d (l.map b18)=some (l.map b18):=a1g m d (FlatR.map λ_=>rfl)
theorem c0x{l:List Bool}{m:Nat}(h:l[m]?=some false):(l.set m true).count false+1=l.count false:=by
 induction l generalizing m with
 |nil=>simp at h
 |cons a l ih=>
  cases m with
  |zero=>simp only[f1p,Option.some.injEq]at h;subst h;simp
  |succ m=>simp only[f1q]at h;simp only[List.set_cons_succ,List.count_cons];have:=ih h;omega
structure Cone(c:Cir)(a:Nat)(inn:List Bool)(T:List Nat)(J:List (List AV))(cap:Option Nat):Prop where
 len:inn.length=c.nodes.length
 mark:∀b:Nat,inn[b]?=some true→DepOn c.nodes a b
 todo:∀t∈T,t<c.nodes.length∧DepOn c.nodes a t
 flat:FlatR J
 cap:cap=none∨(cap=some 1∧T.length+J.length=1)
def cnH(c:Cir)(inn:List Bool)(T:List Nat)(J:List (List AV)):a02:=[some (.row 4 [[sl c.nc (c.nodes.map Nd.enc),sl c.mc (c.names.map a1s),.nilslice,sl c.oc (c.outs.map a0d)]]),some (.row 1 (inn.map b18)),some (.row 1 (T.map a0d++J))]
def JC0(c:Cir)(a:Nat)(n:Nat)(F:Frm)(H:a02):Prop:=∃inn T J cap,n=inn.count false+T.length∧n≤c.nodes.length∧F=[(2,.ptr 0 0 0),(5,.slice 1 0 c.nodes.length (some c.nodes.length)),(6,.slice 2 0 T.length cap)]∧H=cnH c inn T J∧Cone c a inn T J cap
def JC2(c:Cir)(a:Nat)(x:Nd)(N n:Nat)(F:Frm)(H:a02):Prop:=∃inn T J cap k,n=x.ins.length-k∧k≤x.ins.length∧inn.count false+T.length<N∧N≤c.nodes.length∧F=[(2,.ptr 0 0 0),(5,.slice 1 0 c.nodes.length (some c.nodes.length)),(6,.slice 2 0 T.length cap),(45,sl x.c (x.ins.map a0d)),(46,.int .i64 x.ins.length),(47,.int .i64 k)]∧H=cnH c inn T J∧Cone c a inn T J cap
theorem e9f(n:Nat):List.replicate n [AV.bool false]=(List.replicate n false).map b18:=by rw[List.map_replicate];rfl
theorem e1c(c:Cir)(h:c.wf)(a:Nat)(ha:a<c.nodes.length):∃r:AV×a02,(∃l:List Bool,l.length=c.nodes.length∧(∀b:Nat,l[b]?=some true→DepOn c.nodes a b)∧r=(.islice (l.map b18) (some c.nodes.length),[]))∧sem L.env Mf 95 [.agg c.enc,.int .i64 a] []=some r:=by
 have hn:=h.len;have aO:c.nodes.length≤1000000000:=by omega
 have aw:(List.replicate c.nodes.length [AV.bool false]).set a [AV.bool true]=((List.replicate c.nodes.length false).set a true).map b18:=by rw[e9f,f3y];rfl
 have gR:(List.replicate c.nodes.length [AV.bool false])[a]?=some [AV.bool false]:=by rw[f3m,f1r ha]
 have tM:(List.replicate c.nodes.length false)[a]?=some false:=by rw[f3m,f1r ha]
 have iW:((List.replicate c.nodes.length false).set a true).count false+1≤c.nodes.length:=by rw[c0x tM];exact f7j List.count_le_length (by simp)
 simp only[Cir.enc]
 (refine svE Tryz.f95 ?_;simp only[Tryz.f95,gS])
 (repeat first|simp only[ww]|(apply xa;simp+decide only[go_sem,aO,ha,gR];rfl;kernel_rfl))
 refine a1x kp95_0 (JC0 c a) (((List.replicate c.nodes.length false).set a true).count false+1) ?_ ?_
 ·refine⟨_,_,?_,(List.replicate c.nodes.length false).set a true,[a],[],some 1,rfl,iW,rfl,rfl,⟨by simp,?_,?_,FlatR.nil,.inr ⟨rfl,rfl⟩⟩⟩
  ·rw[cnH]
   (simp+decide only[go_sem,a03,a00,a9w,b7q,aw]<;>rfl)<;>rfl
  ·intro b hb;rw[f2v]at hb;by_cases aX:a=b
   ·subst aX;exact .refl _
   ·rw[f0j aX,f3m]at hb;split at hb<;>cases hb
  ·intro t ht;simp only[f1s]at ht;subst ht;exact⟨ha,.refl _⟩
 ·rintro N F H ⟨inn,T,J,cap,rfl,hB,rfl,rfl,hC⟩
  rw[cnH];rcases List.eq_nil_or_concat T with rfl|⟨T,t,rfl⟩
  · -- nothing is left
   (repeat first|simp only[ww]|(apply xa;simp+decide only[go_sem];rfl;kernel_rfl))
   refine a1v (vs:=[.slice 1 0 c.nodes.length (some c.nodes.length)]) (r:=(_,[])) (by simp+decide only[go_sem]) ?_ ⟨inn,hC.len,hC.mark,rfl⟩;show a10 false 0 (.slice 1 0 c.nodes.length (some c.nodes.length)) _=_;rw[←hC.len];simp+decide only[go_sem,f09]
  ·simp only[List.concat_eq_append]at hB hC⊢;obtain⟨mO,fK⟩:=hC.todo t (by simp);obtain⟨x,hx⟩:∃x,c.nodes[t]?=some x:=⟨_,z9e mO⟩
   have ai:(T++[t]).length=T.length+1:=by simp
   rw[ai]at hB;have c1:(0:Int)<((T.length+1:Nat):Int):=by omega
   have eQ:T.length+1≤c.nodes.length:=by omega
   have aT:IntKind.i64.wrap (((T.length+1:Nat):Int)-1)=(T.length:Int):=by rw[w64 (by omega) (by omega)];omega
   have gM:(T++[t]).map a0d++J=T.map a0d++(a0d t::J):=by simp
   have aG:(T.map a0d++(a0d t::J))[T.length]?=some (a0d t):=by rw[f1n (by simp)];simp
   have bd:T.length≤T.length+1:=by omega
   have mr:Cone c a inn T (a0d t::J) cap:=⟨hC.len,hC.mark,λs hs=>hC.todo s (by simp[hs]),FlatR.cons rfl hC.flat,hC.cap.imp id (λ⟨e1,e2⟩=>⟨e1,by rw[ai]at e2;simp;omega⟩)⟩
   have lq:=a0e mr.flat;have kR:=λπ=>a0b π mr.flat;rw[gM,ai];generalize hJ':a0d t::J=J' at aG mr lq kR;have dy:=c10 hx;have cW:=h.insl dy;have bL:a1h (T.length+1) cap=T.length+1∨a1h (T.length+1) cap=1:=by
    rcases hC.cap with e|⟨e,_⟩<;>rw[e]
    ·exact .inl rfl
    ·exact .inr rfl
   have lk:T.length≤a1h (T.length+1) cap:=by
    rcases hC.cap with e|⟨e,e2⟩
    ·rw[e];show T.length≤T.length+1;omega
    ·rw[e];show T.length≤1;rw[ai]at e2;omega
   by_cases h14:x.kind=14
   ·have c3:decide ((x.kind:Int)=14)=true:=f2x (by omega)
    (repeat first|simp only[ww]|(apply xa;simp+decide only[go_sem,c1,aT,aG,hx,mO,c3,lk,bd,a4f];rfl;kernel_rfl))
    refine a0p (inn.count false+T.length) (by omega) ⟨_,_,?_,inn,T,J',cap,rfl,by omega,rfl,rfl,mr⟩;rw[cnH]
    (simp+decide only[go_sem,a03,a00,a9w,b7q,a1u,a32,lq,kR]<;>rfl)<;>rfl
   have c3:¬(x.kind:Int)=14:=by omega
   (repeat first|simp only[ww]|(apply xa;simp+decide only[go_sem,c1,aT,aG,hx,mO,c3,lk,bd,a4f];rfl;kernel_rfl))
   refine a1x kp95_2 (JC2 c a x (inn.count false+(T.length+1))) (x.ins.length-0) ?_ ?_
   ·refine⟨_,_,?_,inn,T,J',cap,0,rfl,f0h _,by omega,hB,rfl,rfl,mr⟩;rw[cnH]
    (simp+decide only[go_sem,a03,a00,a9w,b7q,a1u,a32,lq,kR]<;>rfl)<;>rfl
   ·generalize inn.count false+(T.length+1)=N at hB⊢;clear mr lq kR aG bL lk hC gM aT c1 bd eQ ai hJ';clear J' inn cap J
    rintro n F H ⟨inn,T,J,cap,k,rfl,hk,hN,nZ,rfl,rfl,hC⟩
    rw[cnH];have lq:=a0e hC.flat;have kR:=λπ=>a0b π hC.flat;by_cases bw:k<x.ins.length
    ·obtain⟨m,hm⟩:∃m,x.ins[k]?=some m:=⟨_,z9e bw⟩
     have dL:=h.ins x dy m (c10 hm);have c2:(k:Int)<x.ins.length:=by omega
     have hw:=wI1 (n:=k) (by omega);obtain⟨q,hq⟩:∃q,inn[m]?=some q:=⟨_,z9e (by rw[hC.len];exact dL)⟩
     have iM:=hC.len;have dF:DepOn c.nodes a m:=fK.snoc (by rw[a15 hx];exact h14) (by rw[a1o hx];exact c10 hm);cases q with
     |true=>
      (repeat first|simp only[ww]|(apply xa;simp+decide only[go_sem,c2,bw,hm,hw,dL,hq,iM];rfl;kernel_rfl))
      refine a0p (x.ins.length-(k+1)) (by omega) ⟨_,_,?_,inn,T,J,cap,k+1,rfl,bw,hN,nZ,rfl,rfl,hC⟩;rw[cnH]
      (simp+decide only[go_sem,a03,a00,a9w,b7q,a1u,a32,lq,kR]<;>rfl)<;>rfl
     |false=>
      have aw:(inn.map b18).set m [AV.bool true]=(inn.set m true).map b18:=by rw[f3y];rfl
      have dY:=c0x hq;have oX:T.length+1≤1000000000:=by omega
      have o7:∀J' jM,FlatR J'→(jM=none∨(jM=some 1∧(T++[m]).length+J'.length=1))→Cone c a (inn.set m true) (T++[m]) J' jM:=by
       intro J' jM hf aU;refine⟨by rw[f2r];exact hC.len,?_,?_,hf,aU⟩
       ·intro b hb;rw[f2v]at hb;by_cases oR:m=b
        ·subst oR;exact dF
        ·rw[f0j oR]at hb;exact hC.mark b hb
       ·intro s hs;simp only[f2w,f1s]at hs;rcases hs with hs|rfl
        ·exact hC.todo s hs
        ·exact⟨dL,dF⟩
      have dh:(inn.set m true).count false+(T++[m]).length<N:=by simp;omega
      rcases hC.cap with rfl|⟨rfl,h1⟩
      ·cases J with
       |nil=>
        (repeat first|simp only[ww]|(apply xa;simp+decide only[go_sem,c2,bw,hm,hw,dL,hq,iM,aw,oX,e9n];rfl;kernel_rfl))
        refine a0p (x.ins.length-(k+1)) (by omega) ⟨_,_,?_,inn.set m true,T++[m],[],none,k+1,rfl,bw,dh,nZ,rfl,rfl,o7 [] none FlatR.nil (.inl rfl)⟩;rw[cnH]
        (simp+decide only[go_sem,a03,a00,a9w,b7q,a1u,a32,aw,e9n]<;>rfl)<;>rfl
       |cons j js=>
        have au:¬(T.length=T.length+(js.length+1)):=by omega
        have dX:T.length≤T.length+(js.length+1):=by omega
        have fg:(T.map a0d++(j::js)).take T.length=T.map a0d:=by rw[List.take_append_of_le_length (by simp)];exact b9d a0d T
        (repeat first|simp only[ww]|(apply xa;simp+decide only[go_sem,c2,bw,hm,hw,dL,hq,iM,aw,oX,au,dX,fg,e9m];rfl;kernel_rfl))
        refine a0p (x.ins.length-(k+1)) (by omega) ⟨_,_,?_,inn.set m true,T++[m],[],none,k+1,rfl,bw,dh,nZ,rfl,rfl,o7 [] none FlatR.nil (.inl rfl)⟩;rw[cnH]
        (simp+decide only[go_sem,a03,a00,a9w,b7q,a1u,a32,aw,e9n]<;>rfl)<;>rfl
      ·cases T with
       |nil=>
        obtain⟨j,rfl⟩:∃j,J=[j]:=by
         cases J with
         |nil=>simp at h1
         |cons j js=>cases js with
          |nil=>exact⟨j,rfl⟩
          |cons=>simp only[e9m,f0g]at h1;omega
        (repeat first|simp only[ww]|(apply xa;simp+decide only[go_sem,c2,bw,hm,hw,dL,hq,iM,aw,oX,e9p,e9q,f0g,e9m];rfl;kernel_rfl))
        refine a0p (x.ins.length-(k+1)) (by omega) ⟨_,_,?_,inn.set m true,[m],[],some 1,k+1,rfl,bw,dh,nZ,rfl,rfl,o7 [] (some 1) FlatR.nil (.inr ⟨rfl,rfl⟩)⟩;rw[cnH]
        (simp+decide only[go_sem,a03,a00,a9w,b7q,a1u,a32,aw,e9n,e12,e9p]<;>rfl)<;>rfl
       |cons t0 ts=>
        obtain rfl:ts=[]:=by cases ts with
         |nil=>rfl
         |cons=>simp only[e9m,f0g]at h1;omega
        obtain rfl:J=[]:=by cases J with
         |nil=>rfl
         |cons=>simp only[e9m,f0g]at h1;omega
        (repeat first|simp only[ww]|(apply xa;simp+decide only[go_sem,c2,bw,hm,hw,dL,hq,iM,aw,oX,e9p,e9q,f0g,e9m,e12,e9n];rfl;kernel_rfl))
        refine a0p (x.ins.length-(k+1)) (by omega) ⟨_,_,?_,inn.set m true,[t0,m],[],none,k+1,rfl,bw,dh,nZ,rfl,rfl,o7 [] none FlatR.nil (.inl rfl)⟩;rw[cnH]
        (simp+decide only[go_sem,a03,a00,a9w,b7q,a1u,a32,aw,e9n,e12,e9p]<;>rfl)<;>rfl
    ·obtain rfl:k=x.ins.length:=by omega
     have c2:¬(x.ins.length:Int)<x.ins.length:=by omega
     (repeat first|simp only[ww]|(apply xa;simp+decide only[go_sem,c2];rfl;kernel_rfl))
     refine a0p (inn.count false+T.length) hN ⟨_,_,?_,inn,T,J,cap,rfl,by omega,rfl,rfl,hC⟩;rw[cnH]
     (simp+decide only[go_sem,a03,a00,a9w,b7q,a1u,a32,lq,kR]<;>rfl)<;>rfl
set_option maxHeartbeats 200000000
attribute [go_sem] Flt.enc
theorem c13(c:Cir)(h:c.wf)(a:Nat)(ha:a<c.nodes.length):∃l:List Bool,l.length=c.nodes.length∧(∀b:Nat,l[b]?=some true→DepOn c.nodes a b)∧∀(d:Bool) (H:a02),a09 L.env d (sem L.env Mf) (.func (.func 95) [] []) [.agg c.enc,.int .i64 a] H=some (.islice (l.map b18) (some c.nodes.length),H,[]):=by obtain⟨r,⟨l,h1,h2,rfl⟩,h3⟩:=e1c c h a ha;exact⟨l,h1,h2,λd H=>a04 (by kernel_rfl) (by kernel_rfl) rfl (by simp only[a0c,a1a,Cir.enc,go_sem]) h3 rfl⟩
theorem b1n(c:Cir)(h:c.wf)(a b:Nat)(ha:a<c.nodes.length)(hb:b<c.nodes.length):∃q:Bool,(DepOn c.nodes a b→q=true)∧∀(d:Bool) (H:a02),a09 L.env d (sem L.env Mf) (.func (.func 78) [] []) [.agg c.enc,.int .i64 a,.int .i64 b,.int .i64 0] H=some (.bool q,H,[]):=by have hn:=h.len;obtain⟨q,h1,h2⟩:=c6u c h b hb (c.nodes.length+1) 0 a (by omega) ha (by omega);exact⟨q,λhr=>h1 (by omega) hr,λd H=>a04 (by kernel_rfl) (by kernel_rfl) rfl (by simp only[a0c,a1a,Cir.enc,go_sem]) h2 rfl⟩
theorem c0m{l:List Bool}{b n:Nat}(hl:l.length=n)(hb:b<n){P:Prop}(h:l[b]?=some true→P)(hP:¬P):l[b]?=some false:=by
 obtain⟨q,hq⟩:∃q,l[b]?=some q:=⟨_,z9e (by omega)⟩
 cases q with
 |false=>exact hq
 |true=>exact absurd (h hq) hP
theorem d24(c:Cir)(h:c.wf)(f:Flt)(hf:FltOk c.nodes f)(hm:f.model≠0):sem L.env Mf 49 [.agg c.enc,.agg f.enc] []=some (.int .i64 0,[]):=by
 obtain⟨b1,b2,b3,b4,b5,b6,b7,b8⟩:=hf.bridge hm;obtain⟨x,hx⟩:∃x,c.nodes[f.node]?=some x:=⟨_,z9e hf.node⟩
 obtain⟨y,hy⟩:∃y,c.nodes[f.other]?=some y:=⟨_,z9e hf.other⟩
 rw[a15 hx]at b5;rw[a15 hy]at b6;obtain⟨l1,sS,sR,dZ⟩:=c13 c h f.node hf.node;obtain⟨l2,sQ,sP,eP⟩:=c13 c h f.other hf.other;have g1:=c0m sS hf.other (sR f.other) b7;have g2:=c0m sQ hf.node (sP f.node) b8;have dZ:=dZ false;have eP:=eP false;have c0:¬(f.other:Int)<0:=by omega
 have c1:¬(c.nodes.length:Int)≤f.other:=by have:=hf.other;omega
 have c2:¬(f.node:Int)=f.other:=by omega
 have c3:¬(x.kind:Int)=12:=by omega
 have c4:¬(y.kind:Int)=12:=by omega
 have a9:=hf.node;have dV:=hf.other;have dm:f.model=2∨f.model=3:=by rcases hf.model with e|e|e;exact absurd e hm;exact .inl e;exact .inr e
 simp only[Cir.enc]at dZ eP;simp only[Cir.enc,Flt.enc];rw[b1];rcases dm with e|e
 ·have c5:¬(f.other:Int)<f.node:=by have:=b3 e;omega
  rw[e]
  (refine sv Tryz.f49 ?_;simp only[Tryz.f49,gS])
  (repeat first|simp only[ww]|(apply xa;simp+decide only[go_sem,c0,c1,c2,c3,c4,c5,hx,hy,dZ,eP,g1,g2,a9,dV];rfl;kernel_rfl))
  (apply fqb;simp+decide only[go_sem]<;>rfl)
 ·have hv:=b4 e;rw[e,hv]
  (refine sv Tryz.f49 ?_;simp only[Tryz.f49,gS])
  (repeat first|simp only[ww]|(apply xa;simp+decide only[go_sem,c0,c1,c2,c3,c4,hx,hy,dZ,eP,g1,g2,a9,dV];rfl;kernel_rfl))
  (apply fqb;simp+decide only[go_sem]<;>rfl)
theorem d1b(c:Cir)(h:c.wf)(f:Flt)(hf:FltOk c.nodes f):sem L.env Mf 19 [.agg c.enc,.agg f.enc] []=some (.int .i64 0,[]):=by
 have hv:=λH=>c2s (d:=false) H c h;have hl:=λH=>c6n (d:=false) H c h f.node f.pin hf.node hf.pin.1 hf.pin.2;have cq:=hf.value;have c2:¬(1:Int)<f.value:=by omega
 by_cases hm:f.model=0
 ·have ho:=hf.stuck hm;simp only[Cir.enc]at hv hl;simp only[Cir.enc,Flt.enc,hm,ho]
  (refine sv Tryz.f19 ?_;simp only[Tryz.f19,gS])
  (repeat first|simp only[ww]|(apply xa;simp+decide only[go_sem,hv,hl,c2];rfl;kernel_rfl))
  (apply fqb;simp+decide only[go_sem]<;>rfl)
 ·have hb:=λH=>a04 (E:=L.env) (ah:=false) (call:=sem L.env Mf) (g:=49) (fs:=[]) (cs:=[]) (ar:=[.agg c.enc,.agg f.enc]) (H:=H) (by kernel_rfl) (by kernel_rfl) rfl (by simp only[e9q,e9n,a0c,a1a,Cir.enc,go_sem]) (d24 c h f hf hm) rfl;have dm:f.model=2∨f.model=3:=by rcases hf.model with e|e|e;exact absurd e hm;exact .inl e;exact .inr e
  have c1:¬(3:Int)<f.model:=by omega
  have c3:(2:Int)≤f.model:=by omega
  simp only[Cir.enc]at hv hl;simp only[Cir.enc,Flt.enc]at hb⊢
  (refine sv Tryz.f19 ?_;simp only[Tryz.f19,gS])
  (repeat first|simp only[ww]|(apply xa;simp+decide only[go_sem,hv,hl,c1,c2,c3,hb];rfl;kernel_rfl))
  (apply fqb;simp+decide only[go_sem]<;>rfl)
theorem b47{d:Bool}(H:a02)(c:Cir)(h:c.wf)(f:Flt)(hf:FltOk c.nodes f):a09 L.env d (sem L.env Mf) (.func (.func 19) [] []) [.agg c.enc,.agg f.enc] H=some (.int .i64 0,H,[]):=a04 (by kernel_rfl) (by kernel_rfl) rfl (by simp only[a0c,a1a,Cir.enc,go_sem]) (d1b c h f hf) rfl
/- the statements' own check of a bridge -/
structure Cand(nodes:List Nd)(f:Flt):Prop where
 model:f.model=2∨f.model=3
 node:f.node<nodes.length
 pin:f.pin = -1
 value:f.value≤1
 other:f.other<nodes.length
 wired:f.model=2→f.node≤f.other
 strong:f.model=3→f.value=0
theorem d07(c:Cir)(h:c.wf)(f:Flt)(hf:Cand c.nodes f):∃e:Nat,(e=0→FltOk c.nodes f)∧sem L.env Mf 32 [.agg c.enc,.agg f.enc] []=some (.int .i64 e,[]):=by
 obtain⟨x,hx⟩:∃x,c.nodes[f.node]?=some x:=⟨_,z9e hf.node⟩
 obtain⟨y,hy⟩:∃y,c.nodes[f.other]?=some y:=⟨_,z9e hf.other⟩
 have cq:=hf.value;have dj:=hf.pin;have a9:=hf.node;have dV:=hf.other;have c0:¬(1:Int)<f.value:=by omega
 have c1:¬(f.node:Int)<0:=by omega
 have c2:¬(c.nodes.length:Int)≤f.node:=by omega
 have c3:¬(x.ins.length:Int)≤ -1:=by omega
 have c4:¬(f.other:Int)<0:=by omega
 have c5:¬(c.nodes.length:Int)≤f.other:=by omega
 have e1:¬((-1:Int) < -1):=by omega
 by_cases bU:f.node=f.other
 ·have c6:decide ((f.node:Int)=f.other)=true:=f2x (by omega);refine⟨1,by omega,?_⟩;simp only[Cir.enc,Flt.enc,dj];rcases hf.model with e|e
  ·rw[e]
   (refine sv Tryz.f32 ?_;simp only[Tryz.f32,gS])
   (repeat first|simp only[ww]|(apply xa;simp+decide only[go_sem,c0,c1,c2,c3,c4,c5,c6,hx,hy,a9,dV,e1];rfl;kernel_rfl))
   (apply fqb;simp+decide only[go_sem]<;>rfl)
  ·rw[e]
   (refine sv Tryz.f32 ?_;simp only[Tryz.f32,gS])
   (repeat first|simp only[ww]|(apply xa;simp+decide only[go_sem,c0,c1,c2,c3,c4,c5,c6,hx,hy,a9,dV,e1];rfl;kernel_rfl))
   (apply fqb;simp+decide only[go_sem]<;>rfl)
 have c6:¬(f.node:Int)=f.other:=by omega
 by_cases k1:x.kind=12∨y.kind=12
 ·refine⟨7,by omega,?_⟩;simp only[Cir.enc,Flt.enc,dj];by_cases kx:x.kind=12
  ·have c7:decide ((x.kind:Int)=12)=true:=f2x (by omega);rcases hf.model with e|e
   ·have c9:¬(f.other:Int)<f.node:=by have:=hf.wired e;omega
    rw[e]
    (refine sv Tryz.f32 ?_;simp only[Tryz.f32,gS])
    (repeat first|simp only[ww]|(apply xa;simp+decide only[go_sem,c0,c1,c2,c3,c4,c5,c6,c7,c9,hx,hy,a9,dV,e1];rfl;kernel_rfl))
    (apply fqb;simp+decide only[go_sem]<;>rfl)
   ·have hv:=hf.strong e;rw[e,hv]
    (refine sv Tryz.f32 ?_;simp only[Tryz.f32,gS])
    (repeat first|simp only[ww]|(apply xa;simp+decide only[go_sem,c0,c1,c2,c3,c4,c5,c6,c7,hx,hy,a9,dV,e1];rfl;kernel_rfl))
    (apply fqb;simp+decide only[go_sem]<;>rfl)
  ·have c7:¬(x.kind:Int)=12:=by omega
   have c8:decide ((y.kind:Int)=12)=true:=f2x (by omega);rcases hf.model with e|e
   ·have c9:¬(f.other:Int)<f.node:=by have:=hf.wired e;omega
    rw[e]
    (refine sv Tryz.f32 ?_;simp only[Tryz.f32,gS])
    (repeat first|simp only[ww]|(apply xa;simp+decide only[go_sem,c0,c1,c2,c3,c4,c5,c6,c7,c8,c9,hx,hy,a9,dV,e1];rfl;kernel_rfl))
    (apply fqb;simp+decide only[go_sem]<;>rfl)
   ·have hv:=hf.strong e;rw[e,hv]
    (refine sv Tryz.f32 ?_;simp only[Tryz.f32,gS])
    (repeat first|simp only[ww]|(apply xa;simp+decide only[go_sem,c0,c1,c2,c3,c4,c5,c6,c7,c8,hx,hy,a9,dV,e1];rfl;kernel_rfl))
    (apply fqb;simp+decide only[go_sem]<;>rfl)
 have kx:¬x.kind=12:=λe=>k1 (.inl e);have ky:¬y.kind=12:=λe=>k1 (.inr e);have c7:¬(x.kind:Int)=12:=by omega
 have c8:¬(y.kind:Int)=12:=by omega
 obtain⟨q1,r1,d1⟩:=b1n c h f.node f.other a9 dV;obtain⟨q2,r2,d2⟩:=b1n c h f.other f.node dV a9;have d1:=d1 false;have d2:=d2 false;simp only[Cir.enc]at d1 d2;have bD:q1=false→q2=false→FltOk c.nodes f:=by
  rintro rfl rfl
  refine⟨.inr hf.model,a9,by omega,cq,dV,λe=>by rcases hf.model with e2|e2<;>omega,λ_=>⟨dj,bU,hf.wired,hf.strong,by rw[a15 hx];exact kx,by rw[a15 hy];exact ky,λhr=>absurd (r1 hr) (by decide),λhr=>absurd (r2 hr) (by decide)⟩⟩
 refine⟨if q1||q2 then 6 else 0,?_,?_⟩
 ·intro e;cases q1<;>cases q2<;>first|exact bD rfl rfl|(simp at e)
 ·simp only[Cir.enc,Flt.enc,dj];rcases hf.model with e|e
  ·have c9:¬(f.other:Int)<f.node:=by have:=hf.wired e;omega
   rw[e];cases q1<;>cases q2
   all_goals
    (refine sv Tryz.f32 ?_;simp only[Tryz.f32,gS])
    (repeat first|simp only[ww]|(apply xa;simp+decide only[go_sem,c0,c1,c2,c3,c4,c5,c6,c7,c8,c9,hx,hy,a9,dV,e1,d1,d2];rfl;kernel_rfl))
    (apply fqb;simp+decide only[go_sem]<;>rfl)
  ·have hv:=hf.strong e;rw[e,hv];cases q1<;>cases q2
   all_goals
    (refine sv Tryz.f32 ?_;simp only[Tryz.f32,gS])
    (repeat first|simp only[ww]|(apply xa;simp+decide only[go_sem,c0,c1,c2,c3,c4,c5,c6,c7,c8,hx,hy,a9,dV,e1,d1,d2];rfl;kernel_rfl))
    (apply fqb;simp+decide only[go_sem]<;>rfl)
theorem a4r(c:Cir)(h:c.wf)(f:Flt)(hf:Cand c.nodes f):∃e:Nat,(e=0→FltOk c.nodes f)∧∀(d:Bool) (H:a02),a09 L.env d (sem L.env Mf) (.func (.func 32) [] []) [.agg c.enc,.agg f.enc] H=some (.int .i64 e,H,[]):=by obtain⟨e,h1,h2⟩:=d07 c h f hf;exact⟨e,h1,λd H=>a04 (by kernel_rfl) (by kernel_rfl) rfl (by simp only[a0c,a1a,Cir.enc,go_sem]) h2 rfl⟩
structure FX where
 model:Nat
 node:Nat
 pin:Nat
 other:Nat
 one:Bool
def FX.enc(f:FX):List AV:=[.int .u8 f.model,.int .u8 f.node,.int .u8 f.pin,.int .u8 f.other,.bool f.one]
structure FX.ok(f:FX):Prop where
 model:f.model<256
 node:f.node<256
 pin:f.pin<256
 other:f.other<256
attribute [go_sem] FX.enc
theorem a65{nodes:List Nd}{a p v:Nat}{x:Nd}(hx:nodes[a]?=some x)(hv:v≤1):FltOk nodes ⟨0,a,((p%(x.ins.length+1):Nat):Int)-1,v,0⟩:=by have ha:=(e9k.1 hx).1;have hp:=f7h p (show 0<x.ins.length+1 by omega);refine⟨.inl rfl,ha,?_,hv,by show 0<nodes.length;omega,λ_=>rfl,λh=>absurd rfl h⟩;show -1≤((p%(x.ins.length+1):Nat):Int)-1∧((p%(x.ins.length+1):Nat):Int)-1<(a1y nodes a).length;rw[a1o hx];generalize p%(x.ins.length+1)=q at hp⊢;omega
theorem e5m(c:Cir)(h:c.wf)(f:FX)(hf:f.ok)(hm:f.model%4≠1):∃r:AV×a02,(∃g,FltOk c.nodes g∧r=(.agg g.enc,[]))∧sem L.env Mf 8 [.agg f.enc,.agg c.enc] []=some r:=by
 obtain⟨f1,f2,f3,f4⟩:=hf;have hn:=h.len;have hp:=h.pos;have c0:¬(c.nodes.length:Int)=0:=by omega
 have aY:f.node%c.nodes.length<c.nodes.length:=f7h _ hp;have ed:f.other%c.nodes.length<c.nodes.length:=f7h _ hp;have w1:=wB (n:=f.model%4) (by omega);have w2:=wI (n:=f.node) (by omega);have w3:=wI (n:=f.node%c.nodes.length) (by omega);have w4:=wI (n:=f.other) (by omega);have w5:=wI (n:=f.other%c.nodes.length) (by omega);have w6:=wI (n:=f.pin) (by omega);have dj:∀x:Nd,x∈c.nodes→IntKind.i64.wrap ((x.ins.length:Int)+1)=((x.ins.length+1:Nat):Int)∧IntKind.i64.wrap ((f.pin%(x.ins.length+1):Nat):Int)=((f.pin%(x.ins.length+1):Nat):Int)∧IntKind.i64.wrap (((f.pin%(x.ins.length+1):Nat):Int)-1)=((f.pin%(x.ins.length+1):Nat):Int)-1∧¬((x.ins.length+1:Nat):Int)=0:=by intro x hx;have:=h.insl hx;have hq:=f7h f.pin (show 0<x.ins.length+1 by omega);generalize f.pin%(x.ins.length+1)=q at hq⊢;exact⟨wI1 (by omega),wI (by omega),w64 (by omega) (by omega),by omega⟩
 generalize hN1:f.node%c.nodes.length=nd at aY w3;generalize dh:f.other%c.nodes.length=ot at ed w5;have dm:f.model%4=0∨f.model%4=2∨f.model%4=3:=by omega
 rcases dm with jd|eL|fw
 ·obtain⟨x,hx⟩:∃x,c.nodes[nd]?=some x:=⟨_,z9e aY⟩
  obtain⟨p1,p2,p3,p4⟩:=dj x (c10 hx);cases ho:f.one
  ·simp only[Cir.enc,FX.enc,ho]
   (refine svE Tryz.f8 ?_;simp only[Tryz.f8,gS])
   (repeat first|simp only[ww]|(apply xa;simp+decide only[go_sem,c0,w1,w2,w3,w6,hN1,jd,hx,aY,p1,p2,p3,p4];rfl;kernel_rfl))
   refine a1v (vs:=[.agg (Flt.enc ⟨0,nd,((f.pin%(x.ins.length+1):Nat):Int)-1,0,0⟩)]) (r:=(.agg (Flt.enc ⟨0,nd,((f.pin%(x.ins.length+1):Nat):Int)-1,0,0⟩),[])) (by simp+decide only[go_sem,jd,hx,hN1,p1,p2,p3,p4]<;>rfl) ?_ ⟨_,a65 hx (p:=f.pin) (v:=0) (by omega),rfl⟩;simp+decide only[go_sem]
  ·simp only[Cir.enc,FX.enc,ho]
   (refine svE Tryz.f8 ?_;simp only[Tryz.f8,gS])
   (repeat first|simp only[ww]|(apply xa;simp+decide only[go_sem,c0,w1,w2,w3,w6,hN1,jd,hx,aY,p1,p2,p3,p4];rfl;kernel_rfl))
   refine a1v (vs:=[.agg (Flt.enc ⟨0,nd,((f.pin%(x.ins.length+1):Nat):Int)-1,1,0⟩)]) (r:=(.agg (Flt.enc ⟨0,nd,((f.pin%(x.ins.length+1):Nat):Int)-1,1,0⟩),[])) (by simp+decide only[go_sem,jd,hx,hN1,p1,p2,p3,p4]<;>rfl) ?_ ⟨_,a65 hx (p:=f.pin) (v:=1) (by omega),rfl⟩;simp+decide only[go_sem]
 ·by_cases ag:ot<nd
  ·have jn:(ot:Int)<nd:=by omega
   cases ho:f.one
   ·obtain⟨e,he,cw⟩:=a4r c h ⟨2,ot,-1,0,nd⟩ ⟨.inl rfl,ed,rfl,by show 0≤1;omega,aY,λ_=>by show ot≤nd;omega,λhh=>by have hh:(2:Nat)=3:=hh;omega⟩;have cw:∀H,a09 L.env false (sem L.env Mf) (.func (.func 32) [] []) [.agg [sl c.nc (c.nodes.map Nd.enc),sl c.mc (c.names.map a1s),.nilslice,sl c.oc (c.outs.map a0d)],.agg [.int .u8 ((2:Nat):Int),.int .i64 ot,.int .i64 (-1),.int .u8 0,.int .i64 nd]] H=some (.int .i64 e,H,[]):=cw false;obtain⟨x,hx⟩:∃x,c.nodes[ot]?=some x:=⟨_,z9e ed⟩
    obtain⟨p1,p2,p3,p4⟩:=dj x (c10 hx);simp only[Cir.enc,FX.enc,ho];by_cases gz:e=0
    ·subst gz
     (refine svE Tryz.f8 ?_;simp only[Tryz.f8,gS])
     (repeat first|simp only[ww]|(apply xa;simp+decide only[go_sem,c0,w1,w2,w3,w4,w5,w6,hN1,dh,eL,hx,aY,ed,p1,p2,p3,p4,cw,jn];rfl;kernel_rfl))
     refine a1v (vs:=[.agg (Flt.enc ⟨2,ot,-1,0,nd⟩)]) (r:=(.agg (Flt.enc ⟨2,ot,-1,0,nd⟩),[])) (by simp+decide only[go_sem,eL,hN1,dh]<;>rfl) ?_ ⟨_,he rfl,rfl⟩;simp+decide only[go_sem]
    ·have ce:¬(e:Int)=0:=by omega
     (refine svE Tryz.f8 ?_;simp only[Tryz.f8,gS])
     (repeat first|simp only[ww]|(apply xa;simp+decide only[go_sem,c0,w1,w2,w3,w4,w5,w6,hN1,dh,eL,hx,aY,ed,p1,p2,p3,p4,cw,ce,jn];rfl;kernel_rfl))
     refine a1v (vs:=[.agg (Flt.enc ⟨0,ot,((f.pin%(x.ins.length+1):Nat):Int)-1,0,0⟩)]) (r:=(.agg (Flt.enc ⟨0,ot,((f.pin%(x.ins.length+1):Nat):Int)-1,0,0⟩),[])) (by simp+decide only[go_sem,hx,hN1,dh,p1,p2,p3,p4]<;>rfl) ?_ ⟨_,a65 hx (p:=f.pin) (v:=0) (by omega),rfl⟩;simp+decide only[go_sem]
   ·obtain⟨e,he,cw⟩:=a4r c h ⟨2,ot,-1,1,nd⟩ ⟨.inl rfl,ed,rfl,by show 1≤1;omega,aY,λ_=>by show ot≤nd;omega,λhh=>by have hh:(2:Nat)=3:=hh;omega⟩;have cw:∀H,a09 L.env false (sem L.env Mf) (.func (.func 32) [] []) [.agg [sl c.nc (c.nodes.map Nd.enc),sl c.mc (c.names.map a1s),.nilslice,sl c.oc (c.outs.map a0d)],.agg [.int .u8 ((2:Nat):Int),.int .i64 ot,.int .i64 (-1),.int .u8 1,.int .i64 nd]] H=some (.int .i64 e,H,[]):=cw false;obtain⟨x,hx⟩:∃x,c.nodes[ot]?=some x:=⟨_,z9e ed⟩
    obtain⟨p1,p2,p3,p4⟩:=dj x (c10 hx);simp only[Cir.enc,FX.enc,ho];by_cases gz:e=0
    ·subst gz
     (refine svE Tryz.f8 ?_;simp only[Tryz.f8,gS])
     (repeat first|simp only[ww]|(apply xa;simp+decide only[go_sem,c0,w1,w2,w3,w4,w5,w6,hN1,dh,eL,hx,aY,ed,p1,p2,p3,p4,cw,jn];rfl;kernel_rfl))
     refine a1v (vs:=[.agg (Flt.enc ⟨2,ot,-1,1,nd⟩)]) (r:=(.agg (Flt.enc ⟨2,ot,-1,1,nd⟩),[])) (by simp+decide only[go_sem,eL,hN1,dh]<;>rfl) ?_ ⟨_,he rfl,rfl⟩;simp+decide only[go_sem]
    ·have ce:¬(e:Int)=0:=by omega
     (refine svE Tryz.f8 ?_;simp only[Tryz.f8,gS])
     (repeat first|simp only[ww]|(apply xa;simp+decide only[go_sem,c0,w1,w2,w3,w4,w5,w6,hN1,dh,eL,hx,aY,ed,p1,p2,p3,p4,cw,ce,jn];rfl;kernel_rfl))
     refine a1v (vs:=[.agg (Flt.enc ⟨0,ot,((f.pin%(x.ins.length+1):Nat):Int)-1,1,0⟩)]) (r:=(.agg (Flt.enc ⟨0,ot,((f.pin%(x.ins.length+1):Nat):Int)-1,1,0⟩),[])) (by simp+decide only[go_sem,hx,hN1,dh,p1,p2,p3,p4]<;>rfl) ?_ ⟨_,a65 hx (p:=f.pin) (v:=1) (by omega),rfl⟩;simp+decide only[go_sem]
  ·have jn:¬(ot:Int)<nd:=by omega
   cases ho:f.one
   ·obtain⟨e,he,cw⟩:=a4r c h ⟨2,nd,-1,0,ot⟩ ⟨.inl rfl,aY,rfl,by show 0≤1;omega,ed,λ_=>by show nd≤ot;omega,λhh=>by have hh:(2:Nat)=3:=hh;omega⟩;have cw:∀H,a09 L.env false (sem L.env Mf) (.func (.func 32) [] []) [.agg [sl c.nc (c.nodes.map Nd.enc),sl c.mc (c.names.map a1s),.nilslice,sl c.oc (c.outs.map a0d)],.agg [.int .u8 ((2:Nat):Int),.int .i64 nd,.int .i64 (-1),.int .u8 0,.int .i64 ot]] H=some (.int .i64 e,H,[]):=cw false;obtain⟨x,hx⟩:∃x,c.nodes[nd]?=some x:=⟨_,z9e aY⟩
    obtain⟨p1,p2,p3,p4⟩:=dj x (c10 hx);simp only[Cir.enc,FX.enc,ho];by_cases gz:e=0
    ·subst gz
     (refine svE Tryz.f8 ?_;simp only[Tryz.f8,gS])
     (repeat first|simp only[ww]|(apply xa;simp+decide only[go_sem,c0,w1,w2,w3,w4,w5,w6,hN1,dh,eL,hx,aY,ed,p1,p2,p3,p4,cw,jn];rfl;kernel_rfl))
     refine a1v (vs:=[.agg (Flt.enc ⟨2,nd,-1,0,ot⟩)]) (r:=(.agg (Flt.enc ⟨2,nd,-1,0,ot⟩),[])) (by simp+decide only[go_sem,eL,hN1,dh]<;>rfl) ?_ ⟨_,he rfl,rfl⟩;simp+decide only[go_sem]
    ·have ce:¬(e:Int)=0:=by omega
     (refine svE Tryz.f8 ?_;simp only[Tryz.f8,gS])
     (repeat first|simp only[ww]|(apply xa;simp+decide only[go_sem,c0,w1,w2,w3,w4,w5,w6,hN1,dh,eL,hx,aY,ed,p1,p2,p3,p4,cw,ce,jn];rfl;kernel_rfl))
     refine a1v (vs:=[.agg (Flt.enc ⟨0,nd,((f.pin%(x.ins.length+1):Nat):Int)-1,0,0⟩)]) (r:=(.agg (Flt.enc ⟨0,nd,((f.pin%(x.ins.length+1):Nat):Int)-1,0,0⟩),[])) (by simp+decide only[go_sem,hx,hN1,dh,p1,p2,p3,p4]<;>rfl) ?_ ⟨_,a65 hx (p:=f.pin) (v:=0) (by omega),rfl⟩;simp+decide only[go_sem]
   ·obtain⟨e,he,cw⟩:=a4r c h ⟨2,nd,-1,1,ot⟩ ⟨.inl rfl,aY,rfl,by show 1≤1;omega,ed,λ_=>by show nd≤ot;omega,λhh=>by have hh:(2:Nat)=3:=hh;omega⟩;have cw:∀H,a09 L.env false (sem L.env Mf) (.func (.func 32) [] []) [.agg [sl c.nc (c.nodes.map Nd.enc),sl c.mc (c.names.map a1s),.nilslice,sl c.oc (c.outs.map a0d)],.agg [.int .u8 ((2:Nat):Int),.int .i64 nd,.int .i64 (-1),.int .u8 1,.int .i64 ot]] H=some (.int .i64 e,H,[]):=cw false;obtain⟨x,hx⟩:∃x,c.nodes[nd]?=some x:=⟨_,z9e aY⟩
    obtain⟨p1,p2,p3,p4⟩:=dj x (c10 hx);simp only[Cir.enc,FX.enc,ho];by_cases gz:e=0
    ·subst gz
     (refine svE Tryz.f8 ?_;simp only[Tryz.f8,gS])
     (repeat first|simp only[ww]|(apply xa;simp+decide only[go_sem,c0,w1,w2,w3,w4,w5,w6,hN1,dh,eL,hx,aY,ed,p1,p2,p3,p4,cw,jn];rfl;kernel_rfl))
     refine a1v (vs:=[.agg (Flt.enc ⟨2,nd,-1,1,ot⟩)]) (r:=(.agg (Flt.enc ⟨2,nd,-1,1,ot⟩),[])) (by simp+decide only[go_sem,eL,hN1,dh]<;>rfl) ?_ ⟨_,he rfl,rfl⟩;simp+decide only[go_sem]
    ·have ce:¬(e:Int)=0:=by omega
     (refine svE Tryz.f8 ?_;simp only[Tryz.f8,gS])
     (repeat first|simp only[ww]|(apply xa;simp+decide only[go_sem,c0,w1,w2,w3,w4,w5,w6,hN1,dh,eL,hx,aY,ed,p1,p2,p3,p4,cw,ce,jn];rfl;kernel_rfl))
     refine a1v (vs:=[.agg (Flt.enc ⟨0,nd,((f.pin%(x.ins.length+1):Nat):Int)-1,1,0⟩)]) (r:=(.agg (Flt.enc ⟨0,nd,((f.pin%(x.ins.length+1):Nat):Int)-1,1,0⟩),[])) (by simp+decide only[go_sem,hx,hN1,dh,p1,p2,p3,p4]<;>rfl) ?_ ⟨_,a65 hx (p:=f.pin) (v:=1) (by omega),rfl⟩;simp+decide only[go_sem]
 ·cases ho:f.one
  ·obtain⟨e,he,cw⟩:=a4r c h ⟨3,nd,-1,0,ot⟩ ⟨.inr rfl,aY,rfl,by show 0≤1;omega,ed,λhh=>by have hh:(3:Nat)=2:=hh;omega,λ_=>rfl⟩;have cw:∀H,a09 L.env false (sem L.env Mf) (.func (.func 32) [] []) [.agg [sl c.nc (c.nodes.map Nd.enc),sl c.mc (c.names.map a1s),.nilslice,sl c.oc (c.outs.map a0d)],.agg [.int .u8 ((3:Nat):Int),.int .i64 nd,.int .i64 (-1),.int .u8 0,.int .i64 ot]] H=some (.int .i64 e,H,[]):=cw false;obtain⟨x,hx⟩:∃x,c.nodes[nd]?=some x:=⟨_,z9e aY⟩
   obtain⟨p1,p2,p3,p4⟩:=dj x (c10 hx);simp only[Cir.enc,FX.enc,ho];by_cases gz:e=0
   ·subst gz
    (refine svE Tryz.f8 ?_;simp only[Tryz.f8,gS])
    (repeat first|simp only[ww]|(apply xa;simp+decide only[go_sem,c0,w1,w2,w3,w4,w5,w6,hN1,dh,fw,hx,aY,ed,p1,p2,p3,p4,cw];rfl;kernel_rfl))
    refine a1v (vs:=[.agg (Flt.enc ⟨3,nd,-1,0,ot⟩)]) (r:=(.agg (Flt.enc ⟨3,nd,-1,0,ot⟩),[])) (by simp+decide only[go_sem,fw,hN1,dh]<;>rfl) ?_ ⟨_,he rfl,rfl⟩;simp+decide only[go_sem]
   ·have ce:¬(e:Int)=0:=by omega
    (refine svE Tryz.f8 ?_;simp only[Tryz.f8,gS])
    (repeat first|simp only[ww]|(apply xa;simp+decide only[go_sem,c0,w1,w2,w3,w4,w5,w6,hN1,dh,fw,hx,aY,ed,p1,p2,p3,p4,cw,ce];rfl;kernel_rfl))
    refine a1v (vs:=[.agg (Flt.enc ⟨0,nd,((f.pin%(x.ins.length+1):Nat):Int)-1,0,0⟩)]) (r:=(.agg (Flt.enc ⟨0,nd,((f.pin%(x.ins.length+1):Nat):Int)-1,0,0⟩),[])) (by simp+decide only[go_sem,hx,hN1,dh,p1,p2,p3,p4]<;>rfl) ?_ ⟨_,a65 hx (p:=f.pin) (v:=0) (by omega),rfl⟩;simp+decide only[go_sem]
  ·obtain⟨e,he,cw⟩:=a4r c h ⟨3,nd,-1,0,ot⟩ ⟨.inr rfl,aY,rfl,by show 0≤1;omega,ed,λhh=>by have hh:(3:Nat)=2:=hh;omega,λ_=>rfl⟩;have cw:∀H,a09 L.env false (sem L.env Mf) (.func (.func 32) [] []) [.agg [sl c.nc (c.nodes.map Nd.enc),sl c.mc (c.names.map a1s),.nilslice,sl c.oc (c.outs.map a0d)],.agg [.int .u8 ((3:Nat):Int),.int .i64 nd,.int .i64 (-1),.int .u8 0,.int .i64 ot]] H=some (.int .i64 e,H,[]):=cw false;obtain⟨x,hx⟩:∃x,c.nodes[nd]?=some x:=⟨_,z9e aY⟩
   obtain⟨p1,p2,p3,p4⟩:=dj x (c10 hx);simp only[Cir.enc,FX.enc,ho];by_cases gz:e=0
   ·subst gz
    (refine svE Tryz.f8 ?_;simp only[Tryz.f8,gS])
    (repeat first|simp only[ww]|(apply xa;simp+decide only[go_sem,c0,w1,w2,w3,w4,w5,w6,hN1,dh,fw,hx,aY,ed,p1,p2,p3,p4,cw];rfl;kernel_rfl))
    refine a1v (vs:=[.agg (Flt.enc ⟨3,nd,-1,0,ot⟩)]) (r:=(.agg (Flt.enc ⟨3,nd,-1,0,ot⟩),[])) (by simp+decide only[go_sem,fw,hN1,dh]<;>rfl) ?_ ⟨_,he rfl,rfl⟩;simp+decide only[go_sem]
   ·have ce:¬(e:Int)=0:=by omega
    (refine svE Tryz.f8 ?_;simp only[Tryz.f8,gS])
    (repeat first|simp only[ww]|(apply xa;simp+decide only[go_sem,c0,w1,w2,w3,w4,w5,w6,hN1,dh,fw,hx,aY,ed,p1,p2,p3,p4,cw,ce];rfl;kernel_rfl))
    refine a1v (vs:=[.agg (Flt.enc ⟨0,nd,((f.pin%(x.ins.length+1):Nat):Int)-1,0,0⟩)]) (r:=(.agg (Flt.enc ⟨0,nd,((f.pin%(x.ins.length+1):Nat):Int)-1,0,0⟩),[])) (by simp+decide only[go_sem,hx,hN1,dh,p1,p2,p3,p4]<;>rfl) ?_ ⟨_,a65 hx (p:=f.pin) (v:=0) (by omega),rfl⟩;simp+decide only[go_sem]
attribute [go_sem] Pat.enc
structure PatOk(nodes:List Nd)(p:Pat):Prop where
 ins:p.ins.length=(kinds nodes 0).length
 sts:p.sts.length=(kinds nodes 14).length
 inv:∀v∈p.ins,v≤3
 stv:∀v∈p.sts,v≤3
theorem a3h(nodes:List Nd)(k:Nat):(kinds nodes k).length≤nodes.length:=b3r _ _ _
theorem d5x(c:Cir)(h:c.wf)(k:Nat):sem L.env Mf 80 [.agg c.enc,.int .u8 k] []=some (.int .i64 (kinds c.nodes k).length,[]):=by
 have hn:=h.len;simp only[Cir.enc]
 (refine sv Tryz.f80 ?_;simp only[Tryz.f80,gS])
 (repeat first|simp only[ww]|(apply xa;simp+decide only[go_sem];rfl;kernel_rfl))
 refine a1j (σ:=Nat) kp80_0 (λi=>[(1,.int .u8 k),(2,.ptr 0 0 0),(5,.int .i64 (a3b c.nodes k i).length),(6,.int .i64 i)])
  (λi=>[some (.row 4 [[sl c.nc (c.nodes.map Nd.enc),sl c.mc (c.names.map a1s),.nilslice,sl c.oc (c.outs.map a0d)]])]) (λi=>c.nodes.length-i) (λi=>i≤c.nodes.length) 0 ?_ (f0h _) ?_
 ·have e:a3b c.nodes k 0=[]:=rfl
  (simp+decide only[go_sem,a03,a00,e,f0g]<;>rfl)
 ·intro i hi;by_cases ag:i<c.nodes.length
  ·obtain⟨x,hx⟩:∃x,c.nodes[i]?=some x:=⟨_,z9e ag⟩
   have c1:(i:Int)<c.nodes.length:=by omega
   have hw:=wI1 (n:=i) (by omega);have bd:=b3r c.nodes k i;have e7:=wI1 (n:=(a3b c.nodes k i).length) (by omega);have hs:=b3q c.nodes k i;rw[a15 hx]at hs;by_cases hk:x.kind=k
   ·have ck:decide ((x.kind:Int)=k)=true:=f2x (by omega);rw[f1r hk]at hs;have hl:(a3b c.nodes k (i+1)).length=(a3b c.nodes k i).length+1:=by rw[hs];simp
    (repeat first|simp only[ww]|(apply xa;simp+decide only[go_sem,c1,ag,hx,hw,e7,ck];rfl;kernel_rfl))
    refine a4g (i+1) ?_ (by omega) (by omega)
    (simp+decide only[go_sem,a03,a00,hl]<;>rfl)
   ·have ck:¬(x.kind:Int)=k:=by omega
    rw[f0j hk]at hs
    (repeat first|simp only[ww]|(apply xa;simp+decide only[go_sem,c1,ag,hx,hw,e7,ck];rfl;kernel_rfl))
    refine a4g (i+1) ?_ (by omega) (by omega)
    (simp+decide only[go_sem,a03,a00,hs]<;>rfl)
  ·obtain rfl:i=c.nodes.length:=by omega
   have c1:¬(c.nodes.length:Int)<c.nodes.length:=by omega
   (repeat first|simp only[ww]|(apply xa;simp+decide only[go_sem,c1];rfl;kernel_rfl))
   (apply fqb;simp+decide only[go_sem,kinds]<;>rfl)
theorem b6x{d:Bool}(H:a02)(c:Cir)(h:c.wf){n:Int}(k:Nat)(hk:n=k):a09 L.env d (sem L.env Mf) (.func (.func 80) [] []) [.agg c.enc,.int .u8 n] H=some (.int .i64 (kinds c.nodes k).length,H,[]):=by subst hk;exact a04 (by kernel_rfl) (by kernel_rfl) rfl (by simp only[a0c,a1a,Cir.enc,go_sem]) (d5x c h k) rfl
theorem c0r(l:List Nat):(l.map u8R).flatMap a08=[]:=a0e (FlatR.map λ_=>rfl)
theorem b9p(π:Nat→Option Nat)(l:List Nat):(l.map u8R).map (λr=>r.map (ren π))=l.map u8R:=a0b π (FlatR.map λ_=>rfl)
theorem d5f{m:Nat}{d:AV→Option AV}(l:List Nat):a8m m d (l.map u8R)=some (l.map u8R):=a1g m d (FlatR.map λ_=>rfl)
structure PxOk(p:Pat):Prop where
 inv:∀v∈p.ins,v<256
 stv:∀v∈p.sts,v<256
 inl:p.ins.length<9223372036854775808
 stl:p.sts.length<9223372036854775808
theorem d5i(c:Cir)(h:c.wf)(f:FX)(hf:f.ok)(hm:f.model%4≠1):∃g,FltOk c.nodes g∧∀(d:Bool) (H:a02),a09 L.env d (sem L.env Mf) (.func (.func 8) [] []) [.agg f.enc,.agg c.enc] H=some (.agg g.enc,H,[]):=by obtain⟨r,⟨g,h1,rfl⟩,h2⟩:=e5m c h f hf hm;exact⟨g,h1,λd H=>a04 (by kernel_rfl) (by kernel_rfl) rfl (by simp only[a0c,a1a,Cir.enc,FX.enc,go_sem]) h2 rfl⟩
/- patterns that fit -/
theorem d72(v:Nat)(hv:v≤3):sem L.env Mf 99 [.int .u8 v] []=some (.bool false,[]):=by
 have c1:¬(3:Int)<v:=by omega
 (refine sv Tryz.f99 ?_;simp only[Tryz.f99,gS])
 (repeat first|simp only[ww]|(apply xa;simp+decide only[go_sem,c1];rfl;kernel_rfl))
 (apply fqb;simp+decide only[go_sem]<;>rfl)
theorem c7i{d:Bool}(H:a02)(v:Nat)(hv:v≤3):a09 L.env d (sem L.env Mf) (.func (.func 99) [] []) [.int .u8 v] H=some (.bool false,H,[]):=a04 (by kernel_rfl) (by kernel_rfl) rfl rfl (d72 v hv) rfl
def a8v:AV:=.func (.func 99) [] []
theorem d0l(r:Rep)(l:List Nat)(hl:l.length<1000000)(hc:∀v∈l,v≤3) :
 sem L.env Mf 138 [sl r (l.map u8R),a8v] []=some (.int .i64 (-1),[]):=by
 unfold a8v
 (refine sv Tryz.f138 ?_;simp only[Tryz.f138,gS])
 (repeat first|simp only[ww]|(apply xa;simp+decide only[go_sem];rfl;kernel_rfl))
 refine a1j (σ:=Nat) kp138_0 (λi=>[(0,sl r (l.map u8R)),(1,a8v),(7,.int .i64 l.length),(8,.int .i64 i)])
  (λ_=>[]) (λi=>l.length-i) (λi=>i≤l.length) 0 ?_ (f0h _) ?_
 ·unfold a8v
  (simp+decide only[go_sem,a03,a00]<;>rfl)
 ·intro i hi;unfold a8v;by_cases ag:i<l.length
  ·obtain⟨x,hx⟩:∃x,l[i]?=some x:=⟨_,z9e ag⟩
   have c1:(i:Int)<l.length:=by omega
   have hw:=wI1 (n:=i) (by omega);have gi:=λH=>c7i (d:=false) H x (hc x (c10 hx))
   (repeat first|simp only[ww]|(apply xa;simp+decide only[go_sem,c1,ag,hx,hw,gi];rfl;kernel_rfl))
   refine a4g (i+1) ?_ (by omega) (by omega)
   (simp+decide only[go_sem,a03,a00,a8v]<;>rfl)
  ·obtain rfl:i=l.length:=by omega
   have c1:¬(l.length:Int)<l.length:=by omega
   (repeat first|simp only[ww]|(apply xa;simp+decide only[go_sem,c1];rfl;kernel_rfl))
   (apply fqb;simp+decide only[go_sem]<;>rfl)
theorem c6x(r:Rep)(l:List Nat)(hl:l.length<1000000)(hc:∀v∈l,v≤3) :
 sem L.env Mf 98 [sl r (l.map u8R),a8v] []=some (.bool false,[]):=by
 have h:=λH=>a04 (E:=L.env) (ah:=false) (call:=sem L.env Mf) (g:=138) (fs:=[]) (cs:=[]) (ar:=[sl r (l.map u8R),a8v]) (H:=H) (by kernel_rfl) (by kernel_rfl) rfl (by simp only[e9q,e9n,a0c,a8v,go_sem]) (d0l r l hl hc) rfl;have c1:¬(0:Int)≤ -1:=by omega
 unfold a8v at h⊢
 (refine sv Tryz.f98 ?_;simp only[Tryz.f98,gS])
 (repeat first|simp only[ww]|(apply xa;simp+decide only[go_sem,h,c1];rfl;kernel_rfl))
 (apply fqb;simp+decide only[go_sem]<;>rfl)
theorem b6y{d:Bool}(H:a02)(r:Rep)(l:List Nat)(hl:l.length<1000000)(hc:∀v∈l,v≤3):a09 L.env d (sem L.env Mf) (.func (.func 98) [] []) [sl r (l.map u8R),.func (.func 99) [] []] H=some (.bool false,H,[]):=a04 (by kernel_rfl) (by kernel_rfl) rfl (by simp only[e9q,e9n,a0c,go_sem]) (c6x r l hl hc) rfl
theorem e0h(c:Cir)(h:c.wf):kinds c.nodes 15=[]:=by
 unfold kinds a3b;rw[List.filter_eq_nil_iff];intro j hj;have hj:j<c.nodes.length:=by simpa using hj
 obtain⟨x,hx⟩:∃x,c.nodes[j]?=some x:=⟨_,z9e hj⟩
 have:=h.kind x (c10 hx);rw[a15 hx];simp;omega
theorem d18(c:Cir)(h:c.wf)(p:Pat)(hp:PatOk c.nodes p):sem L.env Mf 50 [.agg c.enc,.agg p.enc] []=some (.int .i64 0,[]):=by
 have hn:=h.len;have hk0:=a3h c.nodes 0;have iJ:=a3h c.nodes 14;have l1:=hp.ins;have l2:=hp.sts;have ho:=λX Y=>b26 (d:=false) (H:=[X,Y,some (.row 1 [[.int .u8 15]])]) (b:=2) c (k:=15) rfl (by omega) rfl;rw[e0h c h,c4c]at ho;have hi:=λH=>a94 (d:=true) H c (by omega);have hs:=λH=>a6x (d:=true) H c (by omega);obtain⟨r0,e0⟩:=a78 (kinds c.nodes 0);obtain⟨r1,e1⟩:=a78 (kinds c.nodes 14);rw[e0]at hi;rw[e1]at hs;have dZ:=λH=>b6y (d:=false) H p.ic p.ins (by omega) hp.inv;have eP:=λH=>b6y (d:=false) H p.sc p.sts (by omega) hp.stv;simp only[Cir.enc]at ho hi hs;simp only[Cir.enc,Pat.enc]
 (refine sv Tryz.f50 ?_;simp only[Tryz.f50,gS])
 (repeat first|simp only[ww]|(apply xa;simp+decide only[go_sem,ho,hi,hs,dZ,eP,l1,l2];rfl;kernel_rfl))
 (apply fqb;simp+decide only[go_sem]<;>rfl)
theorem c8m(c:Cir)(h:c.wf)(p:Pat)(hp:PatOk c.nodes p):sem L.env Mf 20 [.agg c.enc,.agg p.enc] []=some (.int .i64 0,[]):=by
 have hc:=λH=>a92 (d:=false) H c h;have hf:=λH=>a04 (E:=L.env) (ah:=false) (call:=sem L.env Mf) (g:=50) (fs:=[]) (cs:=[]) (ar:=[.agg c.enc,.agg p.enc]) (H:=H) (by kernel_rfl) (by kernel_rfl) rfl (by simp only[e9q,e9n,a0c,a1a,Cir.enc,Pat.enc,go_sem]) (d18 c h p hp) rfl;simp only[Cir.enc,Pat.enc]at hc hf⊢
 (refine sv Tryz.f20 ?_;simp only[Tryz.f20,gS])
 (repeat first|simp only[ww]|(apply xa;simp+decide only[go_sem,hc,hf];rfl;kernel_rfl))
 (apply fqb;simp+decide only[go_sem]<;>rfl)
theorem c1y{d:Bool}(H:a02)(c:Cir)(h:c.wf)(p:Pat)(hp:PatOk c.nodes p):a09 L.env d (sem L.env Mf) (.func (.func 20) [] []) [.agg c.enc,.agg p.enc] H=some (.int .i64 0,H,[]):=a04 (by kernel_rfl) (by kernel_rfl) rfl (by simp only[a0c,a1a,Cir.enc,Pat.enc,go_sem]) (c8m c h p hp) rfl
theorem c83(r:Rep)(l:List Nat)(hv:∀v∈l,v<256)(hl:l.length<9223372036854775808)(n bX:Nat)(hn:n≤100000)(hm:0<bX)(rM:bX≤4)(fw:3≤bX):∃r':AV×a02,(∃out:List Nat,out.length=n∧(∀v∈out,v<bX)∧r'=(grV 0 (out.map u8R),grH 1 (out.map u8R)))∧sem L.env Mf 79 [sl r (l.map u8R),.int .i64 n,.int .u8 bX] []=some r':=by
 (refine svE Tryz.f79 ?_;simp only[Tryz.f79,gS])
 (repeat first|simp only[ww]|(apply xa;simp+decide only[go_sem];rfl;kernel_rfl))
 refine a1x kp79_0 (λq F H=>∃out:List Nat,q=n-out.length∧out.length≤n∧(∀v∈out,v<bX)∧F=[(0,sl r (l.map u8R)),(1,.int .i64 n),(2,.int .u8 bX),(7,grV 0 (out.map u8R)),(8,.int .i64 out.length)]∧H=grH 1 (out.map u8R)) (n-0) ?_ ?_
 ·refine⟨_,_,?_,[],rfl,f0h _,by simp,rfl,rfl⟩
  (simp+decide only[go_sem,a03,a00,e9p,a0q,a0r]<;>rfl)<;>rfl
 ·rintro q F H ⟨out,rfl,ho,hov,rfl,rfl⟩
  by_cases ag:out.length<n
  ·have c1:(out.length:Int)<n:=by omega
   have hw:=wI1 (n:=out.length) (by omega);have aO:out.length+1≤1000000000:=by omega
   by_cases bd:l=[]
   ·subst bd;cases out with
    |nil=>
     simp only[f0g]at hw c1
     (repeat first|simp only[ww]|(apply xa;simp+decide only[go_sem,c1,hw,e9p,f0g,e9p,a0q,a0r,f0g];rfl;kernel_rfl))
     refine a0p (n-1) (by simp at ag⊢;omega) ⟨_,_,?_,[2],rfl,by simp at ag⊢;omega,by intro u hu;simp only[f1s]at hu;subst hu;omega,rfl,rfl⟩
     (simp+decide only[go_sem,a03,a00,e12,e9p,a06,a07,f0g,e9m,c0r,b9p]<;>rfl)<;>rfl
    |cons a r2=>
     simp only[e9m]at aO hw c1 ag
     (repeat first|simp only[ww]|(apply xa;simp+decide only[go_sem,c1,hw,e9p,f0g,e12,a06,a07,aO,e9m];rfl;kernel_rfl))
     refine a0p (n-(r2.length+1+1)) (by simp;omega) ⟨_,_,?_,(a::r2)++[2],by simp,by simp;omega,by intro u hu;rw[f2w]at hu;rcases hu with hu|hu;exact hov u hu;simp only[f1s]at hu;subst hu;omega,rfl,rfl⟩
     (simp+decide only[go_sem,a03,a00,f0k,e12,e9p,a06,a07,e9m,c0r,b9p]<;>rfl)<;>rfl
   ·have fO:0<l.length:=List.length_pos_iff.2 bd;have cl:¬(l.length:Int)=0:=by omega
    have cJ:=f7h out.length fO;obtain⟨u,hu⟩:∃u,l[out.length%l.length]?=some u:=⟨_,z9e cJ⟩
    have uA:=hv u (c10 hu);have dm:=f7h u hm;have cm:¬(bX:Int)=0:=by omega
    have w1:=wI (n:=out.length%l.length) (by omega);have w2:=wB (n:=u%bX) (by omega);cases out with
    |nil=>
     simp only[f0g]at cJ hu w1 hw c1
     (repeat first|simp only[ww]|(apply xa;simp+decide only[go_sem,c1,hw,cl,cJ,hu,cm,w1,w2,e9p,a0q,a0r,f0g];rfl;kernel_rfl))
     refine a0p (n-1) (by simp at ag⊢;omega) ⟨_,_,?_,[u%bX],rfl,by simp at ag⊢;omega,by intro u hu;simp only[f1s]at hu;subst hu;omega,rfl,rfl⟩
     (simp+decide only[go_sem,a03,a00,e12,e9p,a06,a07,f0g,e9m,c0r,b9p]<;>rfl)<;>rfl
    |cons a r2=>
     simp only[e9m]at aO hw c1 ag cJ hu w1
     (repeat first|simp only[ww]|(apply xa;simp+decide only[go_sem,c1,hw,cl,cJ,hu,cm,w1,w2,e12,a06,a07,aO,e9m];rfl;kernel_rfl))
     refine a0p (n-(r2.length+1+1)) (by simp;omega) ⟨_,_,?_,(a::r2)++[u%bX],by simp,by simp;omega,by intro u hu;rw[f2w]at hu;rcases hu with hu|hu;exact hov u hu;simp only[f1s]at hu;subst hu;omega,rfl,rfl⟩
     (simp+decide only[go_sem,a03,a00,f0k,e12,e9p,a06,a07,e9m,c0r,b9p]<;>rfl)<;>rfl
  ·obtain rfl:n=out.length:=by omega
   have c1:¬(out.length:Int)<out.length:=by omega
   cases out with
   |nil=>
    (repeat first|simp only[ww]|(apply xa;simp+decide only[go_sem,c1,e9p,a0q,a0r];rfl;kernel_rfl))
    refine a1v (vs:=[.nilslice]) (r:=(.nilslice,[])) (by simp+decide only[go_sem]) ?_ ⟨[],rfl,by simp,rfl⟩;simp+decide only[go_sem]
   |cons a r2=>
    simp only[e9m]at c1
    (repeat first|simp only[ww]|(apply xa;simp+decide only[go_sem,c1,e12,a06,a07,e9m];rfl;kernel_rfl))
    refine a1v (vs:=[.slice 0 0 (r2.length+1) none]) (r:=(.slice 0 0 (r2.length+1) none,[some (.row 1 ((a::r2).map u8R))])) (by simp+decide only[go_sem]) ?_ ⟨a::r2,rfl,hov,by rw[e12,a06,a07,c11]⟩;rfl
theorem b2m(r:Rep)(l:List Nat)(hv:∀v∈l,v<256)(hl:l.length<9223372036854775808)(n bX:Nat)(hn:n≤100000)(hm:0<bX)(rM:bX≤4)(fw:3≤bX):∃out:List Nat,out.length=n∧(∀v∈out,v<bX)∧∀(d:Bool) (H:a02) (k:Int),k=bX→a09 L.env d (sem L.env Mf) (.func (.func 79) [] []) [sl r (l.map u8R),.int .i64 n,.int .u8 k] H=some (grV H.length (out.map u8R),H++grH 1 (out.map u8R),[]):=by
 obtain⟨r',⟨out,h1,h2,rfl⟩,h3⟩:=c83 r l hv hl n bX hn hm rM fw;refine⟨out,h1,h2,λd H k hk=>?_⟩;subst hk;have h:=b4m (E:=L.env) (d:=d) (H:=H) (fs:=[]) (cs:=[]) (ar:=[sl r (l.map u8R),.int .i64 n,.int .u8 bX]) (by kernel_rfl) (by kernel_rfl) rfl (by simp only[e9q,e9n,a0c,go_sem]) h3;rw[h];cases out with
 |nil=>rfl
 |cons a t=>have hr:=b9p (a13 [] H.length) t;simp only[e12,a06,a07,c11,ren,c3a,e9p,f0e,a0g,hr,f6s]<;>rfl
def ptH(n:Nat)(p:Pat)(c:Cir)(a b:List Nat):a02:=[some (.row 2 [[sl p.ic (p.ins.map u8R),sl p.sc (p.sts.map u8R)]]),some (.row 4 [[sl c.nc (c.nodes.map Nd.enc),sl c.mc (c.names.map a1s),.nilslice,sl c.oc (c.outs.map a0d)]]),some (.row 2 [[.slice (n+3) 0 a.length none,grV (n+4) (b.map u8R)]]),some (.row 1 (a.map u8R))]++grH 1 (b.map u8R)
theorem d9q(c:Cir)(h:c.wf)(hk:kinds c.nodes 0≠[])(p:Pat)(hp:PxOk p):∃r:AV×a02,(∃a b:List Nat,PatOk c.nodes ⟨none,a,none,b⟩∧(∀v∈b,v≤2)∧r=(.agg [.slice 3 0 a.length none,grV 4 (b.map u8R)],ptH 0 p c a b))∧sem L.env Mf 33 [.agg p.enc,.agg c.enc] []=some r:=by
 have hn:=h.len;have hk0:=a3h c.nodes 0;have iJ:=a3h c.nodes 14;have lE:=λH=>b6x (d:=true) H c h (n:=0) 0 rfl;have lD:=λH=>b6x (d:=true) H c h (n:=14) 14 rfl;obtain⟨a,a1,a2,ha⟩:=b2m p.ic p.ins hp.inv hp.inl (kinds c.nodes 0).length 4 (by omega) (by omega) (by omega) (by omega);obtain⟨b,b1,b2,hb⟩:=b2m p.sc p.sts hp.stv hp.stl (kinds c.nodes 14).length 3 (by omega) (by omega) (by omega) (by omega);have a2:∀v∈a,v≤3:=λv hv=>by have:=a2 v hv;omega
 have b3:∀v∈b,v≤2:=λv hv=>by have:=b2 v hv;omega
 have b2:∀v∈b,v≤3:=λv hv=>by have:=b2 v hv;omega
 have ha:=λH=>ha true H 4 rfl;have hb:=λH=>hb true H 3 rfl;simp only[Cir.enc]at lE lD;simp only[Cir.enc,Pat.enc];obtain⟨x,a',rfl⟩:∃x a',a=x::a':=by
  cases a with
  |nil=>exact absurd (f6n a1.symm) hk
  |cons x r=>exact⟨x,r,rfl⟩
 simp only[e12,a06,a07,c11]at ha
 (refine svE Tryz.f33 ?_;simp only[Tryz.f33,gS])
 cases b with
 |nil=>
  simp only[e9p,a0q,a0r,e9n]at hb
  (repeat first|simp only[ww]|(apply xa;simp+decide only[go_sem,lE,lD,ha,hb];rfl;kernel_rfl))
  refine a1v (vs:=[.agg [.slice 3 0 (a'.length+1) none,.nilslice]]) (r:=(.agg [.slice 3 0 (a'.length+1) none,.nilslice],_)) (by simp+decide only[go_sem]<;>rfl) ?_ ⟨_,[],⟨a1,b1,a2,b2⟩,b3,rfl⟩;rfl
 |cons y b'=>
  simp only[e12,a06,a07,c11]at hb
  (repeat first|simp only[ww]|(apply xa;simp+decide only[go_sem,lE,lD,ha,hb];rfl;kernel_rfl))
  refine a1v (vs:=[.agg [.slice 3 0 (a'.length+1) none,.slice 4 0 (b'.length+1) none]]) (r:=(.agg [.slice 3 0 (a'.length+1) none,.slice 4 0 (b'.length+1) none],_)) (by simp+decide only[go_sem]<;>rfl) ?_ ⟨_,y::b',⟨a1,b1,a2,b2⟩,b3,by simp only[e12,a06,c11];rfl⟩;simp only[ptH,e12,a06,a07,c11];rfl
theorem c96(c:Cir)(h:c.wf)(hk:kinds c.nodes 0≠[])(p:Pat)(hp:PxOk p):∃a b:List Nat,PatOk c.nodes ⟨none,a,none,b⟩∧(∀v∈b,v≤2)∧∀(d:Bool) (H:a02),a09 L.env d (sem L.env Mf) (.func (.func 33) [] []) [.agg p.enc,.agg c.enc] H=some (.agg [.slice (H.length+3) 0 a.length none,grV (H.length+4) (b.map u8R)],H++ptH H.length p c a b,[]):=by
 obtain⟨r,⟨a,b,h1,um,rfl⟩,h2⟩:=d9q c h hk p hp;refine⟨a,b,h1,um,λd H=>?_⟩;have hh:=b4m (E:=L.env) (d:=d) (H:=H) (fs:=[]) (cs:=[]) (ar:=[.agg p.enc,.agg c.enc]) (by kernel_rfl) (by kernel_rfl) rfl (by simp only[e9q,e9n,a0c,a1a,Cir.enc,Pat.enc,go_sem]) h2;rw[hh];have h3:=λπ=>b9p π a;have h4:=λπ=>b9p π b;have h5:∀(π:Nat→Option Nat) (r:Rep) (rows:List (List AV)),ren π (sl r rows)=sl r rows:=λπ r rows=>a0x π _ (a33 _ _);cases b with
 |nil=>unfold ptH;simp only[e9p,a0q,a0r,e9n,e12,f0e,a0g,h3,h5,ren,b5s,c3a,f3e]<;>rfl
 |cons y b'=>have h6:=h4 (a13 [] H.length);simp only[e12]at h6;unfold ptH;simp only[e12,a06,a07,c11,e9p,f0k,e9q,f0e,a0g,h3,h5,h6,ren,b5s,c3a,f3e]<;>rfl
theorem e0v(c:Cir)(h:c.wf)(f:FX)(hf:f.ok)(eg:f.model%4=1):∃r:AV×a02,(∃nd pin val,FltOk c.nodes ⟨0,nd,pin,val,0⟩∧r=(.agg (Flt.enc ⟨1,nd,pin,val,0⟩),[]))∧sem L.env Mf 8 [.agg f.enc,.agg c.enc] []=some r:=by
 obtain⟨f1,f2,f3,f4⟩:=hf;have hn:=h.len;have hp:=h.pos;have c0:¬(c.nodes.length:Int)=0:=by omega
 have aY:f.node%c.nodes.length<c.nodes.length:=f7h _ hp;have ed:f.other%c.nodes.length<c.nodes.length:=f7h _ hp;have w1:=wB (n:=f.model%4) (by omega);have w2:=wI (n:=f.node) (by omega);have w3:=wI (n:=f.node%c.nodes.length) (by omega);have w4:=wI (n:=f.other) (by omega);have w5:=wI (n:=f.other%c.nodes.length) (by omega);have w6:=wI (n:=f.pin) (by omega);have dj:∀x:Nd,x∈c.nodes→IntKind.i64.wrap ((x.ins.length:Int)+1)=((x.ins.length+1:Nat):Int)∧IntKind.i64.wrap ((f.pin%(x.ins.length+1):Nat):Int)=((f.pin%(x.ins.length+1):Nat):Int)∧IntKind.i64.wrap (((f.pin%(x.ins.length+1):Nat):Int)-1)=((f.pin%(x.ins.length+1):Nat):Int)-1∧¬((x.ins.length+1:Nat):Int)=0:=by intro x hx;have:=h.insl hx;have hq:=f7h f.pin (show 0<x.ins.length+1 by omega);generalize f.pin%(x.ins.length+1)=q at hq⊢;exact⟨wI1 (by omega),wI (by omega),w64 (by omega) (by omega),by omega⟩
 generalize hN1:f.node%c.nodes.length=nd at aY w3;generalize dh:f.other%c.nodes.length=ot at ed w5;obtain⟨x,hx⟩:∃x,c.nodes[nd]?=some x:=⟨_,z9e aY⟩
 obtain⟨p1,p2,p3,p4⟩:=dj x (c10 hx);cases ho:f.one
 ·simp only[Cir.enc,FX.enc,ho]
  (refine svE Tryz.f8 ?_;simp only[Tryz.f8,gS])
  (repeat first|simp only[ww]|(apply xa;simp+decide only[go_sem,c0,w1,w2,w3,w6,hN1,eg,hx,aY,p1,p2,p3,p4];rfl;kernel_rfl))
  refine a1v (vs:=[.agg (Flt.enc ⟨1,nd,((f.pin%(x.ins.length+1):Nat):Int)-1,0,0⟩)]) (r:=(.agg (Flt.enc ⟨1,nd,((f.pin%(x.ins.length+1):Nat):Int)-1,0,0⟩),[])) (by simp+decide only[go_sem,eg,hx,hN1,p1,p2,p3,p4]<;>rfl) ?_ ⟨_,_,_,a65 hx (p:=f.pin) (v:=0) (by omega),rfl⟩;simp+decide only[go_sem]
 ·simp only[Cir.enc,FX.enc,ho]
  (refine svE Tryz.f8 ?_;simp only[Tryz.f8,gS])
  (repeat first|simp only[ww]|(apply xa;simp+decide only[go_sem,c0,w1,w2,w3,w6,hN1,eg,hx,aY,p1,p2,p3,p4];rfl;kernel_rfl))
  refine a1v (vs:=[.agg (Flt.enc ⟨1,nd,((f.pin%(x.ins.length+1):Nat):Int)-1,1,0⟩)]) (r:=(.agg (Flt.enc ⟨1,nd,((f.pin%(x.ins.length+1):Nat):Int)-1,1,0⟩),[])) (by simp+decide only[go_sem,eg,hx,hN1,p1,p2,p3,p4]<;>rfl) ?_ ⟨_,_,_,a65 hx (p:=f.pin) (v:=1) (by omega),rfl⟩;simp+decide only[go_sem]
theorem d15(c:Cir)(h:c.wf)(f:FX)(hf:f.ok)(hm:f.model%4=1):∃nd pin val,FltOk c.nodes ⟨0,nd,pin,val,0⟩∧∀(d:Bool) (H:a02),a09 L.env d (sem L.env Mf) (.func (.func 8) [] []) [.agg f.enc,.agg c.enc] H=some (.agg (Flt.enc ⟨1,nd,pin,val,0⟩),H,[]):=by obtain⟨r,⟨nd,pin,val,h1,rfl⟩,h2⟩:=e0v c h f hf hm;exact⟨nd,pin,val,h1,λd H=>a04 (by kernel_rfl) (by kernel_rfl) rfl (by simp only[a0c,a1a,Cir.enc,FX.enc,go_sem]) h2 rfl⟩
end Go.QInst
