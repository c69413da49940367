/- Part of a proof. No condition. -/
import Derived.Test.YtmiegcjnimlbmaaGreatDoorUGa
import Derived.Test.YtmiegcjnimlbmaaGreatDoorPcB
import Derived.Test.YtmiegcjnimlbmaaGreatDoorAxD
set_option linter.unusedSimpArgs false
set_option linter.unusedVariables false
namespace Go.UInst
open Go.Proofs Go.Ax Go.Pc
set_option maxRecDepth 100000
theorem c57(k:Nat)(hk:k<16):sem L.env Mf 106 [.int .u8 k] []=some (.tuple [.int .i64 (a2w k:Nat),.int .i64 (a21 k:Nat)],[]):=by
 have w:=wI (n:=k) (by omega);have c:¬(16:Int)≤k:=by omega
 have h:k=0∨k=1∨k=2∨k=3∨k=4∨k=5∨k=6∨k=7∨k=8∨k=9∨k=10∨k=11∨k=12∨k=13∨k=14∨k=15:=by omega
 rcases h with rfl|rfl|rfl|rfl|rfl|rfl|rfl|rfl|rfl|rfl|rfl|rfl|rfl|rfl|rfl|rfl
 all_goals
  (refine sv Tryz.f106 ?_;simp only[Tryz.f106,gS])
  (repeat first|simp only[ww]|(apply xa;simp+decide only[go_sem,w,c];rfl;kernel_rfl))
  (apply fqb;simp+decide only[go_sem]<;>rfl)
theorem b2t{d:Bool}(H:a03)(k:Nat)(hk:k<16):a0o L.env d (sem L.env Mf) (.func (.func 106) [] []) [.int .u8 k] H=some (.tuple [.int .i64 (a2w k:Nat),.int .i64 (a21 k:Nat)],H,[]):=a08 (by kernel_rfl) (by kernel_rfl) rfl rfl (c57 k hk) rfl
theorem c8p(k:Nat)(hk:k<256):sem L.env Mf 61 [.int .u8 k] []=some (.bool (a10 k),[]):=by
 by_cases h1:1≤k
 ·have c1:(1:Int)≤k:=by omega
  by_cases h2:k≤13
  ·have c2:(k:Int)≤13:=by omega
   rw[show a10 k=true by simp[a10,h1,h2]]
   (refine sv Tryz.f61 ?_;simp only[Tryz.f61,gS])
   (repeat first|simp only[ww]|(apply xa;simp+decide only[go_sem,c1,c2];rfl;kernel_rfl))
   (apply fqb;simp+decide only[go_sem]<;>rfl)
  ·have c2:¬(k:Int)≤13:=by omega
   rw[show a10 k=false by simp[a10,h2]]
   (refine sv Tryz.f61 ?_;simp only[Tryz.f61,gS])
   (repeat first|simp only[ww]|(apply xa;simp+decide only[go_sem,c1,c2];rfl;kernel_rfl))
   (apply fqb;simp+decide only[go_sem]<;>rfl)
 ·have c1:¬(1:Int)≤k:=by omega
  rw[show a10 k=false by simp[a10,h1]]
  (refine sv Tryz.f61 ?_;simp only[Tryz.f61,gS])
  (repeat first|simp only[ww]|(apply xa;simp+decide only[go_sem,c1];rfl;kernel_rfl))
  (apply fqb;simp+decide only[go_sem]<;>rfl)
theorem c8a(k v:Nat):sem L.env Mf 136 [.slice 0 0 1 (some 1),.int .u8 v] [some (.row 1 [[.int .u8 k]])]=some (.int .i64 (if v=k then 0 else -1),[some (.row 1 [[.int .u8 k]])]):=by
 (refine sv Tryz.f136 ?_;simp only[Tryz.f136,gS])
 (repeat first|simp only[ww]|(apply xa;simp+decide only[go_sem];rfl;kernel_rfl))
 refine a13 (σ:=Nat) kp136_0 (λi=>[(0,.slice 0 0 1 (some 1)),(1,.int .u8 v),(7,.int .i64 1),(8,.int .i64 i)])
  (λ_=>[some (.row 1 [[.int .u8 k]])]) (λi=>1-i) (λi=>i≤1∧(i=1→v≠k)) 0 ?_ (by simp) ?_
 ·(simp+decide only[go_sem,a01,a00]<;>rfl)
 ·rintro i ⟨hi,hne⟩
  have hh:i=0∨i=1:=by omega
  rcases hh with rfl|rfl
  ·by_cases h:v=k
   ·subst h
    (repeat first|simp only[ww]|(apply xa;simp+decide only[go_sem,if_pos];rfl;kernel_rfl))
    (apply fqb;simp+decide only[go_sem,if_pos]<;>rfl)
   ·have c:¬(v:Int)=k:=by omega
    (repeat first|simp only[ww]|(apply xa;simp+decide only[go_sem,c];rfl;kernel_rfl))
    refine a1k 1 ?_ (by omega) (by simp[h])
    (simp+decide only[go_sem,a01,a00]<;>rfl)
  ·have h:=hne rfl;have c:¬(v:Int)=k:=by omega
   rw[if_neg h]
   (repeat first|simp only[ww]|(apply xa;simp+decide only[go_sem,c];rfl;kernel_rfl))
   (apply fqb;simp+decide only[go_sem]<;>rfl)
theorem c5e(k v:Nat):sem L.env Mf 85 [.slice 0 0 1 (some 1),.int .u8 v] [some (.row 1 [[.int .u8 k]])]=some (.bool (decide (v=k)),[some (.row 1 [[.int .u8 k]])]):=by
 have hc:a0o L.env false (sem L.env Mf) (.func (.func 136) [] []) [.slice 0 0 1 (some 1),.int .u8 v] [some (.row 1 [[.int .u8 k]])]=some (.int .i64 (if v=k then 0 else -1),[some (.row 1 [[.int .u8 k]])],[0]):=a3b (by kernel_rfl) (by kernel_rfl) rfl rfl rfl (FlatO.row (FlatR.cons rfl FlatR.nil)) rfl rfl (c8a k v) rfl;by_cases h:v=k
 ·rw[if_pos h]at hc
  (refine sv Tryz.f85 ?_;simp only[Tryz.f85,gS])
  (repeat first|simp only[ww]|(apply xa;simp+decide only[go_sem,hc];rfl;kernel_rfl))
  (apply fqb;simp+decide only[go_sem,h]<;>rfl)
 ·rw[if_neg h]at hc
  (refine sv Tryz.f85 ?_;simp only[Tryz.f85,gS])
  (repeat first|simp only[ww]|(apply xa;simp+decide only[go_sem,hc];rfl;kernel_rfl))
  (apply fqb;simp+decide only[go_sem,h]<;>rfl)
theorem c0k{d:Bool}(k v:Nat)(X:a03):a0o L.env d (sem L.env Mf) (.func (.func 85) [] []) [.slice 0 0 1 (some 1),.int .u8 v] (some (.row 1 [[.int .u8 k]])::X)=some (.bool (decide (v=k)),some (.row 1 [[.int .u8 k]])::X,[0]):=a3b (by kernel_rfl) (by kernel_rfl) rfl rfl rfl (FlatO.row (FlatR.cons rfl FlatR.nil)) rfl rfl (c5e k v) rfl
def a4i(nodes:List Nd)(k i:Nat):List Nat:=(List.range i).filter λj=>decide (a0p nodes j=k)
theorem b70(nodes:List Nd)(k i:Nat):a4i nodes k (i+1)=if a0p nodes i=k then a4i nodes k i++[i]else a4i nodes k i:=by unfold a4i;rw[List.range_succ,List.filter_append];by_cases h:a0p nodes i=k<;>simp[h]
theorem b5d(nodes:List Nd)(k i:Nat):(a4i nodes k i).length≤i:=Nat.le_trans (List.length_filter_le _ _) (by simp)
def kinds(nodes:List Nd)(k:Nat):List Nat:=a4i nodes k nodes.length
def c51(l:List Nat):AV:=sl (match l with|[]=>none|a::r=>some (some (r.length+1))) (l.map a0z)
theorem c50:c51 [] = .nilslice:=by rfl
theorem c2j(a:Nat)(r:List Nat):c51 (a::r) = .islice ((a::r).map a0z) (some (r.length+1)):=by rfl
theorem a1a{nodes:List Nd}{i:Nat}{x:Nd}(h:nodes[i]?=some x):a0p nodes i=x.kind:=by simp[a0p,h]
theorem a18(l:List Nat):(l.map a0z).flatMap a0c=[]:=a1t (FlatR.map λ_=>rfl)
theorem a2p(π:Nat→Option Nat)(l:List Nat):(l.map a0z).map (λr=>r.map (ren π))=l.map a0z:=a1c π (FlatR.map λ_=>rfl)
theorem c56(l:List Nat):FlatR (l.map a0z):=FlatR.map λ_=>rfl
theorem c8f{m:Nat}{d:AV→Option AV}(l:List Nat):a7n m d (l.map a0z)=some (l.map a0z):=a39 m d (FlatR.map λ_=>rfl)
theorem c5j:sem L.env Mf 86 [.nilslice] []=some (.nilslice,[]):=by
 (refine sv Tryz.f86 ?_;simp only[Tryz.f86,gS])
 (repeat first|simp only[ww]|(apply xa;simp+decide only[go_sem];rfl;kernel_rfl))
 (apply fqb;simp+decide only[go_sem]<;>rfl)
theorem c8q(n:Nat)(rows:List (List AV))(hf:FlatR rows):sem L.env Mf 86 [.slice 0 0 n none] [some (.row 1 rows)]=some (.slice 0 0 n (some n),[some (.row 1 rows)]):=by
 have h1:=λπ=>a1c π hf
 (refine sv Tryz.f86 ?_;simp only[Tryz.f86,gS])
 (repeat first|simp only[ww]|(apply xa;simp+decide only[go_sem];rfl;kernel_rfl))
 (apply fqb;simp+decide only[go_sem,h1]<;>rfl)
theorem c30{d:Bool}{H:a03}{b n:Nat}{rows:List (List AV)}(hf:FlatR rows)(hb:a02 H b=some (.row 1 rows)):a0o L.env d (sem L.env Mf) (.func (.func 86) [] []) [.slice b 0 n none] H=some (.slice b 0 n (some n),H,[b]):=by have h:=a8r (E:=L.env) (draw:=d) (call:=sem L.env Mf) (g:=86) (fs:=[]) (cs:=[]) (ar:=[.slice b 0 n none]) (H:=H) (b:=b) (by kernel_rfl) (by kernel_rfl) rfl hb (a24 hf) (FlatO.row hf) rfl (args':=[AV.slice 0 0 n none]) (by simp only[List.nil_append,List.append_nil,List.map_cons,List.map_nil,a6n]) (c8q n rows hf) (FlatO.row hf) (a7d b 0 _ n _);rw[b3b hb]at h;exact h
theorem d1p(c:Cir)(k:Nat)(hl:c.nodes.length<1000000):sem L.env Mf 35 [.agg c.enc,.slice 0 0 1 (some 1)] [some (.row 1 [[.int .u8 k]])]=some (c51 (kinds c.nodes k),[some (.row 1 [[.int .u8 k]])]):=by
 have hck:=λv X=>c0k (d:=false) k v X
 (refine sv Tryz.f35 ?_;simp only[Tryz.f35,gS])
 (repeat first|simp only[ww]|(apply xa;simp+decide only[go_sem,Cir.enc];rfl;kernel_rfl))
 refine a13 (σ:=Nat) kp35_0 (λi=>[(1,.slice 0 0 1 (some 1)),(5,grV 1 ((a4i c.nodes k i).map a0z)),(9,sl c.nc (c.nodes.map Nd.enc)),(10,.int .i64 c.nodes.length),(11,.int .i64 i)])
  (λi=>some (.row 1 [[.int .u8 k]])::grH 1 ((a4i c.nodes k i).map a0z)) (λi=>c.nodes.length-i) (λi=>i≤c.nodes.length) 0 ?_ (Nat.zero_le _) ?_
 ·have e:a4i c.nodes k 0=[]:=rfl
  (simp+decide only[go_sem,a01,a00,e,List.map_nil,a1z,a20]<;>rfl)
 ·intro i hi;by_cases hlt:i<c.nodes.length
  ·obtain⟨x,hx⟩:∃x,c.nodes[i]?=some x:=⟨_,z9e hlt⟩
   have c1:(i:Int)<c.nodes.length:=by omega
   have hw:=wI1 (n:=i) (by omega);have hs:=b70 c.nodes k i;rw[a1a hx]at hs;have hle:=b5d c.nodes k i;have hrm:(a4i c.nodes k i).length+1≤1000000000:=by omega
   by_cases hk:x.kind=k
   ·rw[if_pos hk]at hs;generalize a4i c.nodes k i=l at hs hle hrm;cases l with
    |nil=>
     (repeat first|simp only[ww]|(apply xa;simp+decide only[go_sem,c1,hlt,hx,hw,hck,hk,List.map_nil,a1z,a20];rfl;kernel_rfl))
     refine a1k (i+1) ?_ (by omega) (by omega);rw[hs]
     (simp+decide only[go_sem,a01,a00,List.map_nil,List.nil_append,List.map_cons,a0t,a0u,List.length_nil]<;>rfl)
    |cons a r=>
     simp only[List.length_cons]at hrm
     (repeat first|simp only[ww]|(apply xa;simp+decide only[go_sem,c1,hlt,hx,hw,hck,hk,List.map_cons,a0t,a0u,hrm,List.length_cons];rfl;kernel_rfl))
     refine a1k (i+1) ?_ (by omega) (by omega);rw[hs]
     (simp+decide only[go_sem,a01,a00,List.cons_append,List.map_cons,a0t,a0u,a18,a2p,List.length_cons]<;>rfl)
   ·rw[if_neg hk]at hs;have hk':¬(x.kind:Int)=k:=by omega
    generalize a4i c.nodes k i=l at hs hle hrm;cases l with
    |nil=>
     (repeat first|simp only[ww]|(apply xa;simp+decide only[go_sem,c1,hlt,hx,hw,hck,hk,List.map_nil,a1z,a20];rfl;kernel_rfl))
     refine a1k (i+1) ?_ (by omega) (by omega);rw[hs]
     (simp+decide only[go_sem,a01,a00,List.map_nil,a1z,a20]<;>rfl)
    |cons a r=>
     (repeat first|simp only[ww]|(apply xa;simp+decide only[go_sem,c1,hlt,hx,hw,hck,hk,List.map_cons,a0t,a0u];rfl;kernel_rfl))
     refine a1k (i+1) ?_ (by omega) (by omega);rw[hs]
     (simp+decide only[go_sem,a01,a00,List.map_cons,a0t,a0u,a18,a2p]<;>rfl)
  ·obtain rfl:i=c.nodes.length:=by omega
   have c1:¬(c.nodes.length:Int)<c.nodes.length:=by omega
   unfold kinds;generalize a4i c.nodes k c.nodes.length=l;cases l with
   |nil=>
    have hcl:=λH=>a08 (E:=L.env) (draw:=false) (call:=sem L.env Mf) (g:=86) (fs:=[]) (cs:=[]) (ar:=[.nilslice]) (H:=H) (by kernel_rfl) (by kernel_rfl) rfl rfl c5j rfl
    (repeat first|simp only[ww]|(apply xa;simp+decide only[go_sem,c1,List.map_nil,a1z,a20,hcl];rfl;kernel_rfl))
    (apply fqb;simp+decide only[go_sem,c50]<;>rfl)
   |cons a r=>
    have hcl:=c30 (d:=false) (H:=[some (.row 1 [[.int .u8 k]]),some (.row 1 ((a::r).map a0z))]) (b:=1) (n:=r.length+1) (c56 _) rfl;simp only[List.map_cons,go_sem]at hcl
    (repeat first|simp only[ww]|(apply xa;simp+decide only[go_sem,c1,List.map_cons,a0t,a0u,List.length_map,hcl];rfl;kernel_rfl))
    (apply fqb;simp+decide only[go_sem,c2j,List.map_cons,c8f,List.length_cons]<;>rfl)
theorem c7o(π:Nat→Option Nat)(c:Cir):ren π (.agg c.enc) = .agg c.enc:=a44 π _ (by simp only[a2u,Cir.enc,go_sem])
theorem b4w(l:List Nat):refs (c51 l)=[]:=a89 _ _
theorem b83{d:Bool}{H:a03}{b:Nat}(c:Cir){k:Nat}{n:Int}(hn:n=k)(hl:c.nodes.length<1000000)(hb:a02 H b=some (.row 1 [[.int .u8 n]])) :
 a0o L.env d (sem L.env Mf) (.func (.func 35) [] []) [.agg c.enc,.slice b 0 1 (some 1)] H=some (c51 (kinds c.nodes k),H,[b]):=by
 subst hn;exact a3b (E:=L.env) (draw:=d) (call:=sem L.env Mf) (g:=35) (fs:=[]) (cs:=[]) (ar:=[.agg c.enc,.slice b 0 1 (some 1)]) (H:=H) (b:=b) (by kernel_rfl) (by kernel_rfl) rfl hb rfl (FlatO.row (FlatR.cons rfl FlatR.nil)) (by simp only[List.nil_append,List.append_nil,a0n,a2u,Cir.enc,go_sem]) (args':=[.agg c.enc,.slice 0 0 1 (some 1)]) (by simp only[List.nil_append,List.append_nil,List.map_cons,List.map_nil,a6n,c7o]) (d1p c k hl) (b4w _)
theorem b73(l:List Nat):∃r,c51 l=sl r (l.map a0z):=⟨_,rfl⟩
theorem c2g(c:Cir)(hl:c.nodes.length<1000000):sem L.env Mf 13 [.agg c.enc] []=some (c51 (kinds c.nodes 0),[]):=by
 have hc:=λX=>b83 (d:=false) (H:=[X,some (.row 1 [[.int .u8 0]])]) (b:=1) c (k:=0) rfl hl rfl;obtain⟨r,hr⟩:=b73 (kinds c.nodes 0);rw[hr]at hc⊢;simp only[Cir.enc]at hc⊢
 (refine sv Tryz.f13 ?_;simp only[Tryz.f13,gS])
 (repeat first|simp only[ww]|(apply xa;simp+decide only[go_sem,hc];rfl;kernel_rfl))
 (apply fqb;simp+decide only[go_sem]<;>rfl)
theorem b0q{d:Bool}(H:a03)(c:Cir)(hl:c.nodes.length<1000000):a0o L.env d (sem L.env Mf) (.func (.func 13) [] []) [.agg c.enc] H=some (c51 (kinds c.nodes 0),H,[]):=a08 (by kernel_rfl) (by kernel_rfl) rfl (by simp only[a0n,a2u,Cir.enc,go_sem]) (c2g c hl) (b4w _)
def b9u(c:Cir):AV:=.func (.func 211) [] [.iptr c.enc]
theorem c1m(c:Cir):refs (b9u c)=[]:=by rfl
theorem b9t(c:Cir):sem L.env Mf 175 [.agg c.enc] []=some (b9u c,[]):=by
 unfold b9u;simp only[Cir.enc]
 (refine sv Tryz.f175 ?_;simp only[Tryz.f175,gS])
 (repeat first|simp only[ww]|(apply xa;simp+decide only[go_sem];rfl;kernel_rfl))
 (apply fqb;simp+decide only[go_sem]<;>rfl)
theorem a66{d:Bool}(H:a03)(c:Cir):a0o L.env d (sem L.env Mf) (.func (.func 175) [] []) [.agg c.enc] H=some (b9u c,H,[]):=a08 (by kernel_rfl) (by kernel_rfl) rfl (by simp only[a0n,a2u,Cir.enc,go_sem]) (b9t c) rfl
theorem c7v(c:Cir)(m:Nat)(hm:m<c.nodes.length):sem L.env Mf 211 [.int .i64 m,.iptr c.enc] []=some (.bool false,[]):=by
 have c1:¬(m:Int)<0:=by omega
 have c2:¬(c.nodes.length:Int)≤m:=by omega
 simp only[Cir.enc]
 (refine sv Tryz.f211 ?_;simp only[Tryz.f211,gS])
 (repeat first|simp only[ww]|(apply xa;simp+decide only[go_sem,c1,c2];rfl;kernel_rfl))
 (apply fqb;simp+decide only[go_sem]<;>rfl)
theorem b50{d:Bool}(H:a03)(c:Cir)(m:Nat)(hm:m<c.nodes.length):a0o L.env d (sem L.env Mf) (b9u c) [.int .i64 m] H=some (.bool false,H,[]):=a08 (by kernel_rfl) (by kernel_rfl) rfl (by simp only[a0n,Cir.enc,go_sem]) (c7v c m hm) rfl
theorem c2i(r:Rep)(l:List Nat)(f:AV)(hf:refs f=[])(hl:l.length<1000000)(hc:∀m∈l,a0o L.env false (sem L.env Mf) f [.int .i64 m] []=some (.bool false,[],[])) :
 sem L.env Mf 210 [sl r (l.map a0z),f] []=some (.int .i64 (-1),[]):=by
 have hr:∀π,ren π f=f:=λπ=>a44 π f hf
 (refine sv Tryz.f210 ?_;simp only[Tryz.f210,gS])
 (repeat first|simp only[ww]|(apply xa;simp+decide only[go_sem];rfl;kernel_rfl))
 refine a13 (σ:=Nat) kp210_0 (λi=>[(0,sl r (l.map a0z)),(1,f),(7,.int .i64 l.length),(8,.int .i64 i)])
  (λ_=>[]) (λi=>l.length-i) (λi=>i≤l.length) 0 ?_ (Nat.zero_le _) ?_
 ·(simp+decide only[go_sem,a01,a00,hf,hr]<;>rfl)
 ·intro i hi;by_cases hlt:i<l.length
  ·obtain⟨x,hx⟩:∃x,l[i]?=some x:=⟨_,z9e hlt⟩
   have c1:(i:Int)<l.length:=by omega
   have hw:=wI1 (n:=i) (by omega);have hcx:=hc x (List.mem_of_getElem? hx)
   (repeat first|simp only[ww]|(apply xa;simp+decide only[go_sem,c1,hlt,hx,hw,hcx];rfl;kernel_rfl))
   refine a1k (i+1) ?_ (by omega) (by omega)
   (simp+decide only[go_sem,a01,a00,hf,hr]<;>rfl)
  ·obtain rfl:i=l.length:=by omega
   have c1:¬(l.length:Int)<l.length:=by omega
   (repeat first|simp only[ww]|(apply xa;simp+decide only[go_sem,c1];rfl;kernel_rfl))
   (apply fqb;simp+decide only[go_sem]<;>rfl)
theorem b2y(r:Rep)(l:List Nat)(f:AV)(hf:refs f=[])(hl:l.length<1000000)(hc:∀m∈l,a0o L.env false (sem L.env Mf) f [.int .i64 m] []=some (.bool false,[],[])) :
 sem L.env Mf 174 [sl r (l.map a0z),f] []=some (.bool false,[]):=by
 have h:=λH=>a08 (E:=L.env) (draw:=false) (call:=sem L.env Mf) (g:=210) (fs:=[]) (cs:=[]) (ar:=[sl r (l.map a0z),f]) (H:=H) (by kernel_rfl) (by kernel_rfl) rfl (by simp only[List.nil_append,List.append_nil,a0n,hf,go_sem]) (c2i r l f hf hl hc) rfl;have c1:¬(0:Int)≤ -1:=by omega
 (refine sv Tryz.f174 ?_;simp only[Tryz.f174,gS])
 (repeat first|simp only[ww]|(apply xa;simp+decide only[go_sem,h,c1];rfl;kernel_rfl))
 (apply fqb;simp+decide only[go_sem]<;>rfl)
theorem b5u{d:Bool}(H:a03)(c:Cir)(r:Rep)(l:List Nat)(hl:l.length<1000000)(h:∀m∈l,m<c.nodes.length) :
 a0o L.env d (sem L.env Mf) (.func (.func 174) [] []) [sl r (l.map a0z),b9u c] H=some (.bool false,H,[]):=
 a08 (by kernel_rfl) (by kernel_rfl) rfl (by simp only[List.nil_append,List.append_nil,a0n,c1m,go_sem]) (b2y r l (b9u c) rfl hl (λm hm=>b50 [] c m (h m hm))) rfl
/- the drivers of a bus -/
theorem c4k(c:Cir)(m:Nat)(hm:m<c.nodes.length)(hk:a0p c.nodes m=12):sem L.env Mf 206 [.int .i64 m,.ptr 0 0 0] [some (.row 4 [c.enc])]=some (.bool false,[some (.row 4 [c.enc])]):=by
 obtain⟨x,hx⟩:∃x,c.nodes[m]?=some x:=⟨_,z9e hm⟩
 rw[a1a hx]at hk;simp only[Cir.enc]
 (refine sv Tryz.f206 ?_;simp only[Tryz.f206,gS])
 (repeat first|simp only[ww]|(apply xa;simp+decide only[go_sem,hx,hk,hm];rfl;kernel_rfl))
 (apply fqb;simp+decide only[go_sem]<;>rfl)
theorem a57(c:Cir):FlatR [c.enc]:=FlatR.cons (by simp only[Cir.enc,go_sem]) FlatR.nil
theorem b9v{d:Bool}(H:a03)(c:Cir)(b m:Nat)(hb:a02 H b=some (.row 4 [c.enc]))(hm:m<c.nodes.length)(hk:a0p c.nodes m=12):a0o L.env d (sem L.env Mf) (.func (.func 206) [] [.ptr b 0 0]) [.int .i64 m] H=some (.bool false,H,[b]):=a3b (fs:=[]) (cs:=[.ptr b 0 0]) (ar:=[.int .i64 m]) (by kernel_rfl) (by kernel_rfl) rfl hb (a24 (a57 c)) (FlatO.row (a57 c)) rfl (args':=[.int .i64 m,.ptr 0 0 0]) (by simp[ren,a93]) (c4k c m hm hk) rfl
theorem c0d(r:Rep)(l:List Nat)(c:Cir)(hl:l.length<1000000)(hc:∀m∈l,m<c.nodes.length∧a0p c.nodes m=12) :
 sem L.env Mf 210 [sl r (l.map a0z),.func (.func 206) [] [.ptr 0 0 0]] [some (.row 4 [c.enc])]=some (.int .i64 (-1),[some (.row 4 [c.enc])]):=by
 have hfl:a0c c.enc=[]:=by simp only[Cir.enc,go_sem]
 have hrn:∀π,c.enc.map (ren π)=c.enc:=λπ=>a2a π hfl;have hcall:=λm h1 h2=>b9v (d:=false) [some (.row 4 [c.enc])] c 0 m rfl h1 h2;generalize he:c.enc=E at hfl hrn hcall
 (refine sv Tryz.f210 ?_;simp only[Tryz.f210,gS])
 (repeat first|simp only[ww]|(apply xa;simp+decide only[go_sem];rfl;kernel_rfl))
 refine a13 (σ:=Nat) kp210_0 (λi=>[(0,sl r (l.map a0z)),(1,.func (.func 206) [] [.ptr 0 0 0]),(7,.int .i64 l.length),(8,.int .i64 i)])
  (λ_=>[some (.row 4 [E])]) (λi=>l.length-i) (λi=>i≤l.length) 0 ?_ (Nat.zero_le _) ?_
 ·(simp+decide only[go_sem,a01,a00,hfl,hrn]<;>rfl)
 ·intro i hi;by_cases hlt:i<l.length
  ·obtain⟨x,hx⟩:∃x,l[i]?=some x:=⟨_,z9e hlt⟩
   have c1:(i:Int)<l.length:=by omega
   have hw:=wI1 (n:=i) (by omega);have hcx:=hcall x (hc x (List.mem_of_getElem? hx)).1 (hc x (List.mem_of_getElem? hx)).2
   (repeat first|simp only[ww]|(apply xa;simp+decide only[go_sem,c1,hlt,hx,hw,hcx];rfl;kernel_rfl))
   refine a1k (i+1) ?_ (by omega) (by omega)
   (simp+decide only[go_sem,a01,a00,hfl,hrn]<;>rfl)
  ·obtain rfl:i=l.length:=by omega
   have c1:¬(l.length:Int)<l.length:=by omega
   (repeat first|simp only[ww]|(apply xa;simp+decide only[go_sem,c1];rfl;kernel_rfl))
   (apply fqb;simp+decide only[go_sem,hrn]<;>rfl)
theorem b5w(r:Rep)(l:List Nat)(c:Cir)(hl:l.length<1000000)(hc:∀m∈l,m<c.nodes.length∧a0p c.nodes m=12) :
 sem L.env Mf 174 [sl r (l.map a0z),.func (.func 206) [] [.ptr 0 0 0]] [some (.row 4 [c.enc])]=some (.bool false,[some (.row 4 [c.enc])]):=by
 have h:=a3b (E:=L.env) (draw:=false) (call:=sem L.env Mf) (g:=210) (fs:=[]) (cs:=[]) (ar:=[sl r (l.map a0z),.func (.func 206) [] [.ptr 0 0 0]]) (H:=[some (.row 4 [c.enc])]) (b:=0) (by kernel_rfl) (by kernel_rfl) rfl rfl (a24 (a57 c)) (FlatO.row (a57 c)) (by simp only[List.nil_append,List.append_nil,a0n,go_sem]) (by simp only[List.nil_append,List.append_nil,List.map_cons,List.map_nil,b7y];simp[ren,b6b,a93]) (c0d r l c hl hc) rfl;have c1:¬(0:Int)≤ -1:=by omega
 have hfl:a0c c.enc=[]:=by simp only[Cir.enc,go_sem]
 have hrn:∀π,c.enc.map (ren π)=c.enc:=λπ=>a2a π hfl;generalize he:c.enc=E at hfl hrn h
 (refine sv Tryz.f174 ?_;simp only[Tryz.f174,gS])
 (repeat first|simp only[ww]|(apply xa;simp+decide only[go_sem,h,c1];rfl;kernel_rfl))
 (apply fqb;simp+decide only[go_sem,hrn]<;>rfl)
theorem b78{d:Bool}{H:a03}{b:Nat}(c:Cir)(r:Rep)(l:List Nat)(hl:l.length<1000000)(hc:∀m∈l,m<c.nodes.length∧a0p c.nodes m=12)(hb:a02 H b=some (.row 4 [c.enc])) :
 a0o L.env d (sem L.env Mf) (.func (.func 174) [] []) [sl r (l.map a0z),.func (.func 206) [] [.ptr b 0 0]] H=some (.bool false,H,[b]):=
 a3b (fs:=[]) (cs:=[]) (ar:=[sl r (l.map a0z),.func (.func 206) [] [.ptr b 0 0]]) (by kernel_rfl) (by kernel_rfl) rfl hb (a24 (a57 c)) (FlatO.row (a57 c)) (by simp only[List.nil_append,List.append_nil,a0n,go_sem]) (by simp only[List.nil_append,List.append_nil,List.map_cons,List.map_nil,b7y];simp[ren,b6b,a93]) (b5w r l c hl hc) rfl
theorem d2i(c:Cir)(x:Nd)(hm:x.mem=0∧x.bit=0)(hk:x.kind≤14):sem L.env Mf 207 [.agg c.enc,.agg x.enc] []=some (.bool true,[]):=by
 have c1:¬(x.kind:Int)=15:=by omega
 obtain⟨m1,m2⟩:=hm;simp only[Cir.enc,Nd.enc,m1,m2]
 (refine sv Tryz.f207 ?_;simp only[Tryz.f207,gS])
 (repeat first|simp only[ww]|(apply xa;simp+decide only[go_sem,c1];rfl;kernel_rfl))
 (apply fqb;simp+decide only[go_sem]<;>rfl)
theorem c5n{d:Bool}(H:a03)(c:Cir)(x:Nd)(hm:x.mem=0∧x.bit=0)(hk:x.kind≤14):a0o L.env d (sem L.env Mf) (.func (.func 207) [] []) [.agg c.enc,.agg x.enc] H=some (.bool true,H,[]):=a08 (by kernel_rfl) (by kernel_rfl) rfl (by simp only[a0n,a2u,Cir.enc,go_sem]) (d2i c x hm hk) rfl
theorem c84(c:Cir)(h:c.wf)(x:Nd)(hx:x∈c.nodes):sem L.env Mf 171 [.agg c.enc,.agg x.enc] []=some (.int .i64 0,[]):=by
 have k14:=h.kind x hx;have hlo:=h.lo x hx;have hhi:=h.hi x hx;have hlen:x.ins.length<1000000:=by
  have:a21 x.kind≤16:=by
   have hk:x.kind=0∨x.kind=1∨x.kind=2∨x.kind=3∨x.kind=4∨x.kind=5∨x.kind=6∨x.kind=7∨x.kind=8∨x.kind=9∨x.kind=10∨x.kind=11∨x.kind=12∨x.kind=13∨x.kind=14:=by omega
   rcases hk with e|e|e|e|e|e|e|e|e|e|e|e|e|e|e<;>rw[e]<;>decide
  omega
 have hf:=λH=>b2t (d:=false) H x.kind (by omega);have ho:=λH=>a66 (d:=true) H c;have hc:=λH=>b5u (d:=true) H c x.c x.ins hlen (h.ins x hx);have hb:=λH=>c5n (d:=false) H c x (h.mem x hx) k14;have c1:¬(15:Int)<x.kind:=by omega
 have c2:¬(x.ins.length:Int)<a2w x.kind:=by omega
 have c3:¬(a21 x.kind:Int)<x.ins.length:=by omega
 have hfl:a0c c.enc=[]:=by simp only[Cir.enc,go_sem]
 by_cases hk:x.kind=13
 ·have hoth:=λ(X:Option AObj)=>b78 (d:=false) (H:=[some (.row 4 [c.enc]),X]) (b:=0) c x.c x.ins hlen (λm hm=>⟨h.ins x hx m hm,h.bus x hx hk m hm⟩) rfl;have ck:decide ((x.kind:Int)=13)=true:=decide_eq_true (by omega);simp only[Cir.enc,Nd.enc]at ho hc hb hoth⊢
  (refine sv Tryz.f171 ?_;simp only[Tryz.f171,gS])
  (repeat first|simp only[ww]|(apply xa;simp+decide only[go_sem,hf,c1,c2,c3,ho,hc,hb,hoth,ck];rfl;kernel_rfl))
  (apply fqb;simp+decide only[go_sem]<;>rfl)
 ·have ck:¬(x.kind:Int)=13:=by omega
  simp only[Cir.enc,Nd.enc]at ho hc hb⊢
  (refine sv Tryz.f171 ?_;simp only[Tryz.f171,gS])
  (repeat first|simp only[ww]|(apply xa;simp+decide only[go_sem,hf,c1,c2,c3,ho,hc,hb,ck];rfl;kernel_rfl))
  (apply fqb;simp+decide only[go_sem]<;>rfl)
theorem c1v{d:Bool}(H:a03)(c:Cir)(h:c.wf)(x:Nd)(hx:x∈c.nodes):a0o L.env d (sem L.env Mf) (.func (.func 171) [] []) [.agg c.enc,.agg x.enc] H=some (.int .i64 0,H,[]):=a08 (by kernel_rfl) (by kernel_rfl) rfl (by simp only[a0n,a2u,Cir.enc,go_sem]) (c84 c h x hx) rfl
theorem c2c(i:Nat)(hi:i<14):sem L.env Mf 208 [.str (a0q i)] []=some (.bool true,[]):=by
 have h:i=0∨i=1∨i=2∨i=3∨i=4∨i=5∨i=6∨i=7∨i=8∨i=9∨i=10∨i=11∨i=12∨i=13:=by omega
 rcases h with rfl|rfl|rfl|rfl|rfl|rfl|rfl|rfl|rfl|rfl|rfl|rfl|rfl|rfl
 ·exact b8i
 ·exact b8h
 ·exact b8g
 ·exact b8f
 ·exact b8e
 ·exact b8d
 ·exact b8c
 ·exact b8b
 ·exact b8a
 ·exact b89
 ·exact b5j
 ·exact b5i
 ·exact b5h
 ·exact b5g
theorem b71{d:Bool}(H:a03)(i:Nat)(hi:i<14):a0o L.env d (sem L.env Mf) (.func (.func 208) [] []) [.str (a0q i)] H=some (.bool true,H,[]):=a08 (by kernel_rfl) (by kernel_rfl) rfl rfl (c2c i hi) rfl
def a3t(i:Nat):List AV:=(List.range i).map λj=>.str (a0q j)
theorem b0f(i:Nat):a3t (i+1)=a3t i++[.str (a0q i)]:=by unfold a3t;rw[List.range_succ,List.map_append];rfl
theorem eqS(a b:List UInt8):aeq L.env 6 9 (.str a) (.str b)=some (a==b):=by kernel_rfl
theorem b54{i j:Nat}(hi:i<14)(hj:j<14)(h:a0q i=a0q j):i=j:=by unfold a0q at h;simp only[List.cons.injEq,and_true,true_and]at h;have h1:=congrArg UInt8.toNat h.1;have h2:=congrArg UInt8.toNat h.2;simp only[UInt8.toNat_ofNat']at h1 h2;omega
theorem c2t(s:Nat)(hs:s<14):∀(l:List Nat) (b:Nat),(∀j∈l,j<s)→a0x (aeq L.env 6 9) (.str (a0q s)) (l.map λj=>.str (a0q j)) b=some none
 | [],b,_=>rfl
 |j::l,b,h=>by
  have hne:(a0q s==a0q j)=false:=by rw[beq_eq_false_iff_ne];intro e;have:=b54 hs (by have:=h j (by simp);omega) e;have:=h j (by simp);omega
  simp only[List.map_cons,a0x,eqS,hne,cond_false];exact c2t s hs l (b+1) (λj hj=>h j (by simp[hj]))
theorem c1z(i:Nat)(hi:i<14):a0x (aeq L.env 6 9) (.str (a0q i)) (a3t i) 0=some none:=c2t i hi _ 0 (λj hj=>by simpa using hj)
def nmO(i:Nat):AObj:=.map (a3t i) (List.replicate i (.bool true)) (List.range i) i
theorem c1y(i:Nat)(hi:i<14):a3j L.env (a02 [some (nmO i)]) 122 (.map 0) (.str (a0q i)) false=some (.bool false):=by
 have h:=c1z i hi;have e:a3j L.env (a02 [some (nmO i)]) 122 (.map 0) (.str (a0q i)) false=match a0x (aeq L.env 6 9) (.str (a0q i)) (a3t i) 0 with
  |some (some j)=>match(List.replicate i (AV.bool true))[j]? with
   |some v=>some (bif false then .tuple [v,.bool true]else v)
   |none=>none
  |some none=>some (.bool false)
  |none=>none:=by kernel_rfl
 rw[e,h]
theorem c1x(i:Nat)(hi:i<14):a12 L.env (a02 [some (nmO i)]) 122 (.map 0) (.str (a0q i)) (.bool true)=some (.set 0 (nmO (i+1))):=by
 have h:=c1z i hi;unfold a12;have e:a6h L.env (a02 [some (nmO i)]) 122 (.map 0) (.str (a0q i))=match a0x (aeq L.env 6 9) (.str (a0q i)) (a3t i) 0 with
  |some (some j)=>match(a3t i)[j]? with
   |some k0=>bif c38 k0 (.str (a0q i))then some (0,a3t i,List.replicate i (AV.bool true),List.range i,i,some j)else none
   |none=>none
  |some none=>some (0,a3t i,List.replicate i (AV.bool true),List.range i,i,none)
  |none=>none:=by kernel_rfl
 rw[e,h];simp only[nmO,b0f,List.range_succ,List.replicate_succ']
theorem b0e(i:Nat):a16 (some (nmO i))=[]:=by
 simp only[nmO,a16,a3t];have h1:∀l:List Nat,a0c (l.map λj=>AV.str (a0q j))=[]:=by intro l;induction l with|nil=>rfl|cons a l ih=>simp[a0c,refs,ih]
 have h2:∀n,a0c (List.replicate n (AV.bool true))=[]:=by intro n;induction n with|zero=>rfl|succ n ih=>simp[List.replicate_succ,a0c,refs,ih]
 rw[h1,h2];rfl
theorem b84(π:Nat→Option Nat)(i:Nat):a0h π (nmO i)=nmO i:=by have h:=b0e i;simp only[nmO,a16,List.append_eq_nil_iff]at h;simp only[nmO,a0h,a2a π h.1,a2a π h.2]
theorem c4r(c:Cir)(h:c.wf):sem L.env Mf 172 [.agg c.enc] []=some (.int .i64 0,[]):=by
 have hn:=h.len;have hnm:c.names.length=c.nodes.length:=by rw[h.names];simp
 simp only[Cir.enc]
 (refine sv Tryz.f172 ?_;simp only[Tryz.f172,gS])
 (repeat first|simp only[ww]|(apply xa;simp+decide only[go_sem];rfl;kernel_rfl))
 have e0:AObj.map [] [] [] 0=nmO 0:=by rfl
 refine a13 (σ:=Nat) kp172_0 (λi=>[(3,.map 0),(8,sl c.mc (c.names.map b1l)),(9,.int .i64 c.names.length),(10,.int .i64 i)])
  (λi=>[some (nmO i)]) (λi=>c.names.length-i) (λi=>i≤c.names.length) 0 ?_ (Nat.zero_le _) ?_
 ·rw[e0]
  (simp+decide only[go_sem,a01,a00,b0e,b84]<;>rfl)
 ·intro i hi;by_cases hlt:i<c.names.length
  ·have hx:c.names[i]?=some (a0q i):=by rw[h.names,List.getElem?_map,List.getElem?_range (by omega)];rfl
   have c1:(i:Int)<c.names.length:=by omega
   have hw:=wI1 (n:=i) (by omega);have hcn:=λH=>b71 (d:=false) H i (by omega);have hlk:=c1y i (by omega);have hup:=c1x i (by omega)
   (repeat first|simp only[ww]|(apply xa;simp+decide only[go_sem,c1,hlt,hx,hw,hcn,hlk,hup];rfl;kernel_rfl))
   refine a1k (i+1) ?_ (by omega) (by omega)
   (simp+decide only[go_sem,a01,a00,b0e,b84]<;>rfl)
  ·obtain rfl:i=c.names.length:=by omega
   have c1:¬(c.names.length:Int)<c.names.length:=by omega
   (repeat first|simp only[ww]|(apply xa;simp+decide only[go_sem,c1];rfl;kernel_rfl))
   (apply fqb;simp+decide only[go_sem]<;>rfl)
theorem a52(c:Cir):a0c [.agg c.enc]=[]:=by simp only[a0n,a2u,Cir.enc,go_sem]
theorem c01{d:Bool}(H:a03)(c:Cir)(h:c.wf):a0o L.env d (sem L.env Mf) (.func (.func 172) [] []) [.agg c.enc] H=some (.int .i64 0,H,[]):=a08 (by kernel_rfl) (by kernel_rfl) rfl (a52 c) (c4r c h) rfl
theorem c4a(c:Cir)(h:c.wf):sem L.env Mf 134 [.agg c.enc] []=some (.int .i64 0,[]):=by
 have hn:=h.len;have hnm:c.names.length=c.nodes.length:=by rw[h.names];simp
 have hol:=h.outl;have c1:¬(16384:Int)<c.nodes.length:=by omega
 have c2:¬(16384:Int)<c.outs.length:=by omega
 have hno:=λH x hx=>c1v (d:=false) H c h x hx;have hna:=λH=>c01 (d:=false) H c h;have hou:=λH=>a66 (d:=true) H c;have hcf:=λH=>b5u (d:=true) H c c.oc c.outs (by omega) h.outs;have hlen:c.enc.length=4:=rfl;simp only[Cir.enc]at hno hna hou hcf⊢
 (refine sv Tryz.f134 ?_;simp only[Tryz.f134,gS])
 (repeat first|simp only[ww]|(apply xa;simp+decide only[go_sem,c1,c2,hnm];rfl;kernel_rfl))
 refine a13 (σ:=Nat) kp134_1 (λi=>[(1,.ptr 0 0 0),(36,sl c.nc (c.nodes.map Nd.enc)),(37,.int .i64 c.nodes.length),(38,.int .i64 i)])
  (λi=>[some (.row 4 [[sl c.nc (c.nodes.map Nd.enc),sl c.mc (c.names.map b1l),.nilslice,sl c.oc (c.outs.map a0z)]])]) (λi=>c.nodes.length-i) (λi=>i≤c.nodes.length) 0 ?_ (Nat.zero_le _) ?_
 ·(simp+decide only[go_sem,a01,a00]<;>rfl)
 ·intro i hi;by_cases hlt:i<c.nodes.length
  ·obtain⟨x,hx⟩:∃x,c.nodes[i]?=some x:=⟨_,z9e hlt⟩
   have c1:(i:Int)<c.nodes.length:=by omega
   have hw:=wI1 (n:=i) (by omega);have hcx:=λH=>hno H x (List.mem_of_getElem? hx);simp only[Nd.enc]at hcx
   (repeat first|simp only[ww]|(apply xa;simp+decide only[go_sem,c1,hlt,hx,hw,hcx];rfl;kernel_rfl))
   refine a1k (i+1) ?_ (by omega) (by omega)
   (simp+decide only[go_sem,a01,a00]<;>rfl)
  ·obtain rfl:i=c.nodes.length:=by omega
   have c1:¬(c.nodes.length:Int)<c.nodes.length:=by omega
   (repeat first|simp only[ww]|(apply xa;simp+decide only[go_sem,c1,hna];rfl;kernel_rfl))
   refine a13 (σ:=Nat) kp134_3 (λi=>[(1,.ptr 0 0 0),(55,.nilslice),(56,.int .i64 0),(57,.int .i64 0)])
    (λi=>[some (.row 4 [[sl c.nc (c.nodes.map Nd.enc),sl c.mc (c.names.map b1l),.nilslice,sl c.oc (c.outs.map a0z)]])]) (λi=>0) (λi=>True) 0 ?_ trivial ?_
   ·(simp+decide only[go_sem,a01,a00]<;>rfl)
   ·intro i _
    (repeat first|simp only[ww]|(apply xa;simp+decide only[go_sem,hou,hcf];rfl;kernel_rfl))
    (apply fqb;simp+decide only[go_sem]<;>rfl)
theorem b9k{d:Bool}(H:a03)(c:Cir)(h:c.wf):a0o L.env d (sem L.env Mf) (.func (.func 134) [] []) [.agg c.enc] H=some (.int .i64 0,H,[]):=a08 (by kernel_rfl) (by kernel_rfl) rfl (a52 c) (c4a c h) rfl
theorem a7u{d:Bool}(H:a03)(k:Nat)(hk:k<256):a0o L.env d (sem L.env Mf) (.func (.func 61) [] []) [.int .u8 k] H=some (.bool (a10 k),H,[]):=a08 (by kernel_rfl) (by kernel_rfl) rfl rfl (c8p k hk) rfl
def foE(fo:List (List (Nat×Nat))):List (List (List AV)):=fo.map (·.map a36)
theorem a1i(fo:List (List (Nat×Nat))):(foE fo).length=fo.length:=by unfold foE;simp
theorem a2e{fo:List (List (Nat×Nat))}{j:Nat}{L:List (Nat×Nat)}(h:fo[j]?=some L):(foE fo)[j]?=some (L.map a36):=by unfold foE;rw[List.getElem?_map,h];rfl
theorem b3y(fo:List (List (Nat×Nat)))(j:Nat)(L:List (Nat×Nat))(i k:Nat):(foE fo).set j (L.map a36++[a36 (i,k)])=foE (fo.set j (L++[(i,k)])):=by unfold foE;rw[List.map_set,List.map_append];rfl
def J0(c:Cir)(n:Nat)(F:Frm)(H:a03):Prop:=∃i b ids fo,n=c.nodes.length-i∧i≤c.nodes.length∧
 F=[(3,.slice b 0 c.nodes.length (some c.nodes.length)),(4,b9u c),(18,sl c.nc (c.nodes.map Nd.enc)),(19,.int .i64 c.nodes.length),(20,.int .i64 i)]∧Two H b 2 ids (λ_=>none) (foE fo)∧FoOk c.nodes i 0 fo
def J2(c:Cir)(i:Nat)(x:Nd)(n:Nat)(F:Frm)(H:a03):Prop:=∃k b ids fo,n=x.ins.length-k∧k≤x.ins.length∧
 F=[(3,.slice b 0 c.nodes.length (some c.nodes.length)),(4,b9u c),(5,.int .i64 i),(18,sl c.nc (c.nodes.map Nd.enc)),(19,.int .i64 c.nodes.length),(20,.int .i64 i),(26,sl x.c (x.ins.map a0z)),(27,.int .i64 x.ins.length),(28,.int .i64 k)]∧Two H b 2 ids (λ_=>none) (foE fo)∧FoOk c.nodes i k fo
def cpT(fo:List (List (Nat×Nat)))(t:Nat):Nat→Option Nat:=λj=>if j<t then(fo[j]?).map List.length else none
def J4(c:Cir)(fo:List (List (Nat×Nat)))(n:Nat)(F:Frm)(H:a03):Prop:=∃t b ids,n=c.nodes.length-t∧t≤c.nodes.length∧
 F=[(3,.slice b 0 c.nodes.length (some c.nodes.length)),(51,.slice b 0 c.nodes.length (some c.nodes.length)),(52,.int .i64 c.nodes.length),(53,.int .i64 t)]∧Two H b 2 ids (cpT fo t) (foE fo)
theorem b7m(H:a03)(n:Nat)(b:Nat)(h:a02 H b=some (.row 1 (List.replicate n [.nilslice]))):Two H b 2 (λ_=>0) (λ_=>none) (foE (List.replicate n [])):=by
 have hfo:foE (List.replicate n [])=List.replicate n []:=by unfold foE;rw[List.map_replicate];rfl
 rw[hfo];have hno:∀(j:Nat) (f:List (List AV)),(List.replicate n ([]:List (List AV)))[j]?=some f→f=[]:=by
  intro j f hf;rw[List.getElem?_replicate]at hf;split at hf
  ·cases hf;rfl
  ·cases hf
 refine⟨?_,λj f hf hne=>absurd (hno j f hf) hne,λi j f g hf _ hne=>absurd (hno i f hf) hne,λf hf=>?_⟩
 ·rw[h]
  congr 2
  apply List.ext_getElem?;intro j;unfold a3r;rw[List.getElem?_mapIdx,List.getElem?_replicate,List.getElem?_replicate];split<;>rfl
 ·rw[(List.mem_replicate.1 hf).2];exact FlatR.nil
theorem b90(fo:List (List (Nat×Nat))):cpT fo 0=λ_=>none:=by funext j;simp[cpT]
theorem b91{fo:List (List (Nat×Nat))}{t:Nat}{L:List (Nat×Nat)}(h:fo[t]?=some L):(λi=>if i=t then some L.length else cpT fo t i)=cpT fo (t+1):=by
 funext j
 unfold cpT;by_cases h1:j=t
 ·subst h1;simp[h]
 ·by_cases h2:j<t
  ·simp[h1,h2,show j<t+1 by omega]
  ·simp[h1,h2,show ¬j<t+1 by omega]
theorem c31:sem L.env Mf 176 [.nilslice] []=some (.nilslice,[]):=by
 (refine sv Tryz.f176 ?_;simp only[Tryz.f176,gS])
 (repeat first|simp only[ww]|(apply xa;simp+decide only[go_sem];rfl;kernel_rfl))
 (apply fqb;simp+decide only[go_sem]<;>rfl)
theorem c5k(n:Nat)(rows:List (List AV))(hf:FlatR rows):sem L.env Mf 176 [.slice 0 0 n none] [some (.row 2 rows)]=some (.slice 0 0 n (some n),[some (.row 2 rows)]):=by
 have h1:=λπ=>a1c π hf
 (refine sv Tryz.f176 ?_;simp only[Tryz.f176,gS])
 (repeat first|simp only[ww]|(apply xa;simp+decide only[go_sem];rfl;kernel_rfl))
 (apply fqb;simp+decide only[go_sem,h1]<;>rfl)
theorem b17{d:Bool}(H:a03):a0o L.env d (sem L.env Mf) (.func (.func 176) [] []) [.nilslice] H=some (.nilslice,H,[]):=a08 (by kernel_rfl) (by kernel_rfl) rfl rfl c31 rfl
theorem b2z{d:Bool}{H:a03}{b n:Nat}{rows:List (List AV)}(hf:FlatR rows)(hb:a02 H b=some (.row 2 rows)):a0o L.env d (sem L.env Mf) (.func (.func 176) [] []) [.slice b 0 n none] H=some (.slice b 0 n (some n),H,[b]):=by have h:=a8r (E:=L.env) (draw:=d) (call:=sem L.env Mf) (g:=176) (fs:=[]) (cs:=[]) (ar:=[.slice b 0 n none]) (H:=H) (b:=b) (by kernel_rfl) (by kernel_rfl) rfl hb (a24 hf) (FlatO.row hf) rfl (args':=[AV.slice 0 0 n none]) (by simp only[List.nil_append,List.append_nil,List.map_cons,List.map_nil,a6n]) (c5k n rows hf) (FlatO.row hf) (a7d b 0 _ n _);rw[b3b hb]at h;exact h
theorem c2u(c:Cir)(h:c.wf):∃r:AV×a03,(∃fo,FoOk c.nodes c.nodes.length 0 fo∧r=(AV.islice ((foE fo).mapIdx λj f=>[slF (cpT fo c.nodes.length j) f]) (some c.nodes.length),[]))∧sem L.env Mf 135 [.agg c.enc] []=some r:=by
 have hn:=h.len;have hou:=λH=>a66 (d:=false) H c;have hrm:c.nodes.length≤1000000000:=by omega
 have hov:refs (b9u c)=[]:=rfl;have hor:∀π,ren π (b9u c)=b9u c:=λπ=>a44 π _ rfl;have ho1:=λH m hm=>b50 (d:=false) H c m hm;generalize hO:b9u c=O at hou hov hor ho1;simp only[Cir.enc]at hou⊢
 (refine svE Tryz.f135 ?_;simp only[Tryz.f135,gS])
 (repeat first|simp only[ww]|(apply xa;simp+decide only[go_sem,hou,hrm];rfl;kernel_rfl))
 refine a9v kp135_0 (J0 c) (c.nodes.length-0) ?_ ?_
 ·refine a1r (b7m _ c.nodes.length 1 rfl) ?_ (by rw[a1i];simp;omega) ?_
  ·exact .inl (by simp+decide only[go_sem,hov])
  ·intro π b' ids' H1 hb hT;refine⟨0,b',ids',_,rfl,Nat.zero_le _,?_,hT,FoOk.zero _⟩;simp+decide only[go_sem,hb,hor,hO]<;>rfl
 ·rintro n F H ⟨i,b,ids,fo,rfl,hi,rfl,hT,hF⟩
  by_cases hlt:i<c.nodes.length
  ·obtain⟨x,hx⟩:∃x,c.nodes[i]?=some x:=⟨_,z9e hlt⟩
   have c1:(i:Int)<c.nodes.length:=by omega
   have hw:=wI1 (n:=i) (by omega);have hbl:=a1n hT.top;have hxi:=a4j hx;rw[hO]
   (repeat first|simp only[ww]|(apply xa;simp+decide only[go_sem,c1,hlt,hx,hw,a55,a4p,a84,a9z,a8f];rfl;kernel_rfl))
   refine a9v kp135_2 (J2 c i x) (x.ins.length-0) ?_ ?_
   ·refine a1r (hT.more) ?_ (by rw[a1i,hF.len];omega) ?_
    ·exact .inl (by simp+decide only[go_sem,hov])
    ·intro π b' ids' H1 hb hT;refine⟨0,b',ids',_,rfl,Nat.zero_le _,?_,hT,hF⟩;simp+decide only[go_sem,hb,hor,hO]<;>rfl
   ·rintro n F H ⟨k,b,ids,fo,rfl,hk,rfl,hT,hF⟩
    rw[hO];by_cases hkl:k<x.ins.length
    ·obtain⟨m,hm⟩:∃m,x.ins[k]?=some m:=⟨_,z9e hkl⟩
     have hmn:=h.ins x (List.mem_of_getElem? hx) m (List.mem_of_getElem? hm);have hom:=λH=>ho1 H m hmn;have c2:(k:Int)<x.ins.length:=by omega
     have hil:=h.insl (List.mem_of_getElem? hx);have hw2:=wI1 (n:=k) (by omega);have hbl:=a1n hT.top;have htop:=hT.top;have hmf:m<fo.length:=by rw[hF.len];exact hmn
     obtain⟨L,hL⟩:∃L,fo[m]?=some L:=⟨_,z9e hmf⟩
     have hget:=a65 (ids:=ids) (cp:=λ_=>none) (a2e hL);have hstep:=hF.step (by rw[hxi];exact hm) hL;have hrl:(a3r ids (λ_=>none) (foE fo)).length=c.nodes.length:=by rw[a3q,a1i,hF.len]
     cases L with
     |nil=>
      simp only[List.map_nil,slV]at hget
      (repeat first|simp only[ww]|(apply xa;simp+decide only[go_sem,c2,hkl,hm,hw2,hom,hbl,htop,hmn,hget,a55,a4p,a6t,a84,a9z,b7r,a8f,a9m,List.append_assoc,List.cons_append,List.nil_append,hrl];rfl;kernel_rfl))
      refine a54 (x.ins.length-(k+1)) (by omega) ?_;have hT2:=hT.app1 (o:=some (.row 2 [a36 (i,k)])) (x:=a36 (i,k)) (a2e hL) rfl rfl;have e2:(foE fo).set m [a36 (i,k)]=foE (fo.set m ([]++[(i,k)])):=b3y fo m [] i k;rw[e2]at hT2;refine a1r hT2 ?_ (by rw[a1i,List.length_set,hF.len];omega) ?_
      ·exact .inl (by simp+decide only[go_sem,hov])
      ·intro π b' ids' H1 hb hT;refine⟨k+1,b',ids',_,rfl,hkl,?_,hT,hstep⟩;simp+decide only[go_sem,hb,hor,hO]<;>rfl
     |cons a r=>
      simp only[List.map_cons,slV]at hget;have hsub:=hT.sub m _ (a2e hL) (by simp);obtain⟨s1,s2⟩:=hsub;have s3:=a1n s1;simp only[List.map_cons]at s1;have hLl:r.length+1+1≤1000000000:=by have:=hF.total hL (h.len) (λy hy=>h.insl hy);simp only[List.length_cons]at this;omega
      (repeat first|simp only[ww]|(apply xa;simp+decide only[go_sem,c2,hkl,hm,hw2,hom,hbl,htop,hmn,hget,a55,a4p,a6t,b2l,List.length_set,s1,s2,s3,hLl,a84,a9z,b7r,a8f,a9m,List.append_assoc,List.cons_append,List.nil_append,hrl];rfl;kernel_rfl))
      refine a54 (x.ins.length-(k+1)) (by omega) ?_;have hT2:=hT.app2 (o:=some (.row 2 [a36 (i,k)])) (x:=a36 (i,k)) (a2e hL) rfl rfl;have e2:(foE fo).set m (a36 a::List.map a36 r++[a36 (i,k)])=foE (fo.set m (a::r++[(i,k)])):=b3y fo m (a::r) i k;rw[e2]at hT2;rw[List.length_map]at hT2;refine a1r hT2 ?_ (by rw[a1i,List.length_set,hF.len];omega) ?_
      ·exact .inl (by simp+decide only[go_sem,hov])
      ·intro π b' ids' H1 hb hT;refine⟨k+1,b',ids',_,rfl,hkl,?_,hT,hstep⟩;simp+decide only[go_sem,hb,hor,hO]<;>rfl
    ·obtain rfl:k=x.ins.length:=by omega
     have c2:¬(x.ins.length:Int)<x.ins.length:=by omega
     (repeat first|simp only[ww]|(apply xa;simp+decide only[go_sem,c2,hw];rfl;kernel_rfl))
     refine a54 (c.nodes.length-(i+1)) (by omega) ?_;refine a1r hT ?_ (by rw[a1i,hF.len];omega) ?_
     ·exact .inl (by simp+decide only[go_sem,hov])
     ·intro π b' ids' H1 hb hT;refine⟨i+1,b',ids',_,rfl,by omega,?_,hT,hF.next (by rw[hxi])⟩;simp+decide only[go_sem,hb,hor,hO]<;>rfl
  ·obtain rfl:i=c.nodes.length:=by omega
   have c1:¬(c.nodes.length:Int)<c.nodes.length:=by omega
   rw[hO]
   (repeat first|simp only[ww]|(apply xa;simp+decide only[go_sem,c1];rfl;kernel_rfl))
   refine a9v kp135_4 (J4 c fo) (c.nodes.length-0) ?_ ?_
   ·refine a1r hT ?_ (by rw[a1i,hF.len];omega) ?_
    ·exact .inr (by simp+decide only[go_sem,hov])
    ·intro π b' ids' H1 hb hT;refine⟨0,b',ids',rfl,Nat.zero_le _,?_,by rw[b90];exact hT⟩;simp+decide only[go_sem,hb,hor,hO]<;>rfl
   ·rintro n F H ⟨t,b,ids,rfl,ht,rfl,hT⟩
    by_cases htl:t<c.nodes.length
    ·have c2:(t:Int)<c.nodes.length:=by omega
     have hw2:=wI1 (n:=t) (by omega);have hbl:=a1n hT.top;have htop:=hT.top;obtain⟨L,hL⟩:∃L,fo[t]?=some L:=⟨_,z9e (by rw[hF.len];exact htl)⟩
     have hget:=a65 (ids:=ids) (cp:=cpT fo t) (a2e hL);have hct:cpT fo t t=none:=by simp[cpT]
     have hrl:(a3r ids (cpT fo t) (foE fo)).length=c.nodes.length:=by rw[a3q,a1i,hF.len]
     rw[hct]at hget;have hfin:∀H1,H1=H.set b (some (.row 1 ((a3r ids (cpT fo t) (foE fo)).set t [slV (ids t) (some L.length) (L.map a36)])))→Two H1 b 2 ids (cpT fo (t+1)) (foE fo):=by
      intro H1 hH1;have:=hT.clip (H1:=H1) (a2e hL) (by rw[hH1,a95 hbl]) (λc hc=>by rw[hH1,a4o (Ne.symm hc)])
      rwa [b91 hL]at this
     cases L with
     |nil=>
      simp only[List.map_nil,slV]at hget;have hcl:=λH=>b17 (d:=false) H
      (repeat first|simp only[ww]|(apply xa;simp+decide only[go_sem,c2,htl,hw2,hbl,htop,hget,hcl,hrl,List.length_set];rfl;kernel_rfl))
      refine a54 (c.nodes.length-(t+1)) (by omega) ?_;refine a1r (hfin _ rfl) ?_ (by rw[a1i,hF.len];omega) ?_
      ·exact .inr (by simp+decide only[go_sem,hov])
      ·intro π b' ids' H1 hb hT;refine⟨t+1,b',ids',rfl,by omega,?_,hT⟩;simp+decide only[go_sem,hb,hor,hO]<;>rfl
     |cons a r=>
      simp only[List.map_cons,slV]at hget;obtain⟨s1,s2⟩:=hT.sub t _ (a2e hL) (by simp);have hcl:=b2z (d:=false) (H:=H) (b:=ids t) (n:=r.length+1) (hT.flat _ (List.mem_of_getElem? (a2e hL))) s1
      (repeat first|simp only[ww]|(apply xa;simp+decide only[go_sem,c2,htl,hw2,hbl,htop,hget,hcl,hrl,List.length_set];rfl;kernel_rfl))
      refine a54 (c.nodes.length-(t+1)) (by omega) ?_;refine a1r (hfin _ (by simp only[List.map_cons,slV,List.length_map,List.length_cons])) ?_ (by rw[a1i,hF.len];omega) ?_
      ·exact .inr (by simp+decide only[go_sem,hov])
      ·intro π b' ids' H1 hb hT;refine⟨t+1,b',ids',rfl,by omega,?_,hT⟩;simp+decide only[go_sem,hb,hor,hO]<;>rfl
    ·obtain rfl:t=c.nodes.length:=by omega
     have c2:¬(c.nodes.length:Int)<c.nodes.length:=by omega
     have hz:=hT.frz (some c.nodes.length);rw[a1i,hF.len]at hz
     (repeat first|simp only[ww]|(apply xa;simp+decide only[go_sem,c2];rfl;kernel_rfl))
     refine d25 (vs:=[.slice b 0 c.nodes.length (some c.nodes.length)]) (r:=(_,[])) (by simp+decide only[go_sem]) ?_ ⟨fo,hF,rfl⟩;show a42 false 0 (.slice b 0 c.nodes.length (some c.nodes.length)) H=_;rw[b5q,hz];rfl
def foR(c:Cir)(fo:List (List (Nat×Nat))):List (List AV):=(foE fo).mapIdx λj f=>[slF (cpT fo c.nodes.length j) f]
theorem c2q{c:Cir}{fo:List (List (Nat×Nat))}{j:Nat}{L:List (Nat×Nat)}(h:fo[j]?=some L)(hj:j<c.nodes.length):(foR c fo)[j]?=some [slF (some L.length) (L.map a36)]:=by unfold foR;rw[List.getElem?_mapIdx,a2e h];simp[cpT,hj,h]
theorem b77(c:Cir)(h:c.wf):∃fo,FoOk c.nodes c.nodes.length 0 fo∧∀(d:Bool) (H:a03),a0o L.env d (sem L.env Mf) (.func (.func 135) [] []) [.agg c.enc] H=some (.islice (foR c fo) (some c.nodes.length),H,[]):=by obtain⟨r,⟨fo,h1,rfl⟩,h2⟩:=c2u c h;exact⟨fo,h1,λd H=>a08 (by kernel_rfl) (by kernel_rfl) rfl (a52 c) h2 rfl⟩
def kcb(c:Cir):Option AObj:=some (.row 4 [[sl c.nc (c.nodes.map Nd.enc),sl c.mc (c.names.map b1l),.nilslice,sl c.oc (c.outs.map a0z)]])
attribute [go_sem] kcb
def JL2(c:Cir)(fo:List (List (Nat×Nat)))(n:Nat)(F:Frm)(H:a03):Prop:=∃(out left ready:List Nat) (done:Nat),n=c.nodes.length-done∧
 F=[(1,.ptr 0 0 0),(5,.slice 1 0 c.nodes.length (some c.nodes.length)),(6,.slice 2 0 c.nodes.length (some c.nodes.length)),(7,grV 3 (ready.map a0z)),(10,.islice (foR c fo) (some c.nodes.length)),(11,.int .i64 done)]∧
 H=[kcb c,some (.row 1 (out.map a0z)),some (.row 1 (left.map a0z))]++grH 1 (ready.map a0z)∧Kahn c.nodes left ready done []∧out.length=c.nodes.length∧(∀v∈out,v≤300*done)∧Lev c.nodes out ready done []
def JL4(c:Cir)(fo:List (List (Nat×Nat)))(done x:Nat)(L:List (Nat×Nat))(n:Nat)(F:Frm)(H:a03):Prop:=∃(out left ready:List Nat) (q:Nat),n=L.length-q∧q≤L.length∧
 F=[(1,.ptr 0 0 0),(5,.slice 1 0 c.nodes.length (some c.nodes.length)),(6,.slice 2 0 c.nodes.length (some c.nodes.length)),(7,grV 3 (ready.map a0z)),(10,.islice (foR c fo) (some c.nodes.length)),(11,.int .i64 (done+1:Nat)),(12,.int .i64 x),(76,.islice (L.map a36) (some L.length)),(77,.int .i64 L.length),(78,.int .i64 q)]∧
 H=[kcb c,some (.row 1 (out.map a0z)),some (.row 1 (left.map a0z))]++grH 1 (ready.map a0z)∧Kahn c.nodes left ready done (L.take q)∧ready[done]?=some x∧out.length=c.nodes.length∧(∀v∈out,v≤300*done+q)∧Lev c.nodes out ready done (L.take q)
theorem d6u(n:Nat):List.replicate n [AV.int .i64 0]=(List.replicate n 0).map a0z:=by rw[List.map_replicate];rfl
theorem b9a(a b:Nat):c40 (.int .i64 a) [.int .i64 (b:Int)]=some (.int .i64 ((max a b:Nat):Int)):=by
 simp only[c40];by_cases h:(b:Int)>a
 ·rw[if_pos h];congr 2;omega
 ·rw[if_neg h];congr 2;omega
theorem c28(c:Cir)(h:c.wf):∃r:AV×a03,(∃lv:List Nat,lv.length=c.nodes.length∧(∀v∈lv,v≤100000)∧c3t c.nodes lv∧r=(.tuple [.islice (lv.map a0z) (some c.nodes.length),.int .i64 0],[]))∧sem L.env Mf 84 [.agg c.enc] []=some r:=by
 have hn:=h.len;obtain⟨fo,hfo,hfc⟩:=b77 c h;have hfc:=hfc false;have hsh:=λH=>b9k (d:=false) H c h;have hrm:c.nodes.length≤1000000000:=by omega
 have hko:a16 (kcb c)=[]:=by simp only[go_sem]
 simp only[Cir.enc]at hfc hsh⊢
 (refine svE Tryz.f84 ?_;simp only[Tryz.f84,gS])
 (repeat first|simp only[ww]|(apply xa;simp+decide only[go_sem,hsh,hrm];rfl;kernel_rfl))
 refine a13 (σ:=Nat) kp84_0 (λi=>[(1,.ptr 0 0 0),(5,.slice 1 0 c.nodes.length (some c.nodes.length)),(6,.slice 2 0 c.nodes.length (some c.nodes.length)),(7,grV 3 ((a1h c.nodes i).map a0z)),(29,sl c.nc (c.nodes.map Nd.enc)),(30,.int .i64 c.nodes.length),(31,.int .i64 i)])
  (λi=>[kcb c,some (.row 1 ((List.replicate c.nodes.length 0).map a0z)),some (.row 1 ((a1d c.nodes i).map a0z))]++grH 1 ((a1h c.nodes i).map a0z)) (λi=>c.nodes.length-i) (λi=>i≤c.nodes.length) 0 ?_ (Nat.zero_le _) ?_
 ·rw[b0m,show a1h c.nodes 0=[]from rfl]
  (simp+decide only[go_sem,a01,a00,d6u,List.map_nil,a1z,a20,a18,a2p]<;>rfl)
 ·intro i hi;by_cases hlt:i<c.nodes.length
  ·obtain⟨x,hx⟩:∃x,c.nodes[i]?=some x:=⟨_,z9e hlt⟩
   have c1:(i:Int)<c.nodes.length:=by omega
   have hw:=wI1 (n:=i) (by omega);have k14:=h.kind x (List.mem_of_getElem? hx);have hcb:=λH=>a7u (d:=false) H x.kind (by omega);have hll:(a1d c.nodes i).length=c.nodes.length:=by simp[a1d]
   have hgl:(a1d c.nodes i)[i]?=some 0:=by rw[a2y hlt];simp
   have hrl:=b26 c.nodes i;have hrs:=a91 c.nodes i;have hset:=a77 hlt;have hgl2:(a1d c.nodes (i+1))[i]?=some (a6r c.nodes i):=by rw[a2y hlt];simp
   have hnd:a6r c.nodes i=if a10 x.kind=true then x.ins.length else 0:=by unfold a6r;rw[a1a hx,a4j hx]
   have hsetR:((a1d c.nodes i).map a0z).set i [AV.int .i64 (a6r c.nodes i)]=(a1d c.nodes (i+1)).map a0z:=by rw[←hset,List.map_set];rfl
   by_cases hcm:a10 x.kind=true
   ·rw[if_pos hcm]at hnd;rw[hnd]at hsetR hgl2 hrs;by_cases hz:x.ins.length=0
    ·rw[if_pos hz]at hrs;have hz':(x.ins.length:Int)=0:=by omega
     rw[hz]at hsetR hgl2;generalize a1h c.nodes i=l at hrl hrs;cases l with
     |nil=>
      (repeat first|simp only[ww]|(apply xa;simp+decide only[go_sem,c1,hlt,hx,hw,hcb,hcm,hll,hgl,hsetR,hgl2,hz,List.map_nil,a1z,a20];rfl;kernel_rfl))
      refine a1k (i+1) ?_ (by omega) (by omega);rw[hrs]
      (simp+decide only[go_sem,a01,a00,List.map_nil,List.nil_append,List.map_cons,a0t,a0u,List.length_nil,a18,a2p]<;>rfl)
     |cons a r=>
      simp only[List.length_cons]at hrl;have hrm2:r.length+1+1≤1000000000:=by omega
      (repeat first|simp only[ww]|(apply xa;simp+decide only[go_sem,c1,hlt,hx,hw,hcb,hcm,hll,hgl,hsetR,hgl2,hz,List.map_cons,a0t,a0u,hrm2,List.length_cons];rfl;kernel_rfl))
      refine a1k (i+1) ?_ (by omega) (by omega);rw[hrs]
      (simp+decide only[go_sem,a01,a00,List.cons_append,List.map_cons,a0t,a0u,a18,a2p,List.length_cons]<;>rfl)
    ·rw[if_neg hz]at hrs;have hz':¬(x.ins.length:Int)=0:=by omega
     generalize a1h c.nodes i=l at hrl hrs;cases l with
     |nil=>
      (repeat first|simp only[ww]|(apply xa;simp+decide only[go_sem,c1,hlt,hx,hw,hcb,hcm,hll,hgl,hsetR,hgl2,hz',List.map_nil,a1z,a20];rfl;kernel_rfl))
      refine a1k (i+1) ?_ (by omega) (by omega);rw[hrs]
      (simp+decide only[go_sem,a01,a00,List.map_nil,a1z,a20,a18,a2p]<;>rfl)
     |cons a r=>
      (repeat first|simp only[ww]|(apply xa;simp+decide only[go_sem,c1,hlt,hx,hw,hcb,hcm,hll,hgl,hsetR,hgl2,hz',List.map_cons,a0t,a0u];rfl;kernel_rfl))
      refine a1k (i+1) ?_ (by omega) (by omega);rw[hrs]
      (simp+decide only[go_sem,a01,a00,List.map_cons,a0t,a0u,a18,a2p]<;>rfl)
   ·have hcm:a10 x.kind=false:=by simpa using hcm
    rw[hcm]at hnd;have hnd:a6r c.nodes i=0:=hnd;rw[hnd,if_pos rfl]at hrs;have hsame:=b0n hlt hnd
    ·
     generalize a1h c.nodes i=l at hrl hrs;cases l with
     |nil=>
      (repeat first|simp only[ww]|(apply xa;simp+decide only[go_sem,c1,hlt,hx,hw,hcb,hcm,hll,hgl,List.map_nil,a1z,a20];rfl;kernel_rfl))
      refine a1k (i+1) ?_ (by omega) (by omega);rw[hrs,←hsame]
      (simp+decide only[go_sem,a01,a00,List.map_nil,List.nil_append,List.map_cons,a0t,a0u,List.length_nil,a18,a2p]<;>rfl)
     |cons a r=>
      simp only[List.length_cons]at hrl;have hrm2:r.length+1+1≤1000000000:=by omega
      (repeat first|simp only[ww]|(apply xa;simp+decide only[go_sem,c1,hlt,hx,hw,hcb,hcm,hll,hgl,List.map_cons,a0t,a0u,hrm2,List.length_cons];rfl;kernel_rfl))
      refine a1k (i+1) ?_ (by omega) (by omega);rw[hrs,←hsame]
      (simp+decide only[go_sem,a01,a00,List.cons_append,List.map_cons,a0t,a0u,a18,a2p,List.length_cons]<;>rfl)
  ·obtain rfl:i=c.nodes.length:=by omega
   have c1:¬(c.nodes.length:Int)<c.nodes.length:=by omega
   have hK:=Kahn.start c.nodes;generalize a1h c.nodes c.nodes.length=ready at hK;generalize a1d c.nodes c.nodes.length=left at hK
   (repeat first|simp only[ww]|(apply xa;simp+decide only[go_sem,c1,hfc];rfl;kernel_rfl))
   refine a9v kp84_2 (JL2 c fo) (c.nodes.length-0) ?_ ?_
   ·refine⟨_,_,?_,List.replicate c.nodes.length 0,left,ready,0,rfl,rfl,rfl,hK,by simp,by simp,Lev.start _ _ _⟩;cases ready with
    |nil=>(simp+decide only[go_sem,a01,a00,List.map_nil,a1z,a20,a18,a2p]<;>rfl)
    |cons a r=>(simp+decide only[go_sem,a01,a00,List.map_cons,a0t,a0u,a18,a2p]<;>rfl)
   ·rintro n F H ⟨out,left,ready,done,rfl,rfl,rfl,hK,hol,hob,hV⟩
    have hne:ready≠[]:=by
     rintro rfl
     have hd0:done=0:=by have:=hK.dle;simpa using this
     subst hd0;have h1:c.nodes.length≤0:=hK.all h.acyc;have h2:=h.pos;omega
    have hbd:=hK.bound;have hdl:=hK.dle;have hneE:ready.map a0z≠[]:=by simpa using hne
    rw[a3u 3 hneE,a3v 1 hneE,List.length_map];have hwd:=wI1 (n:=done) (by omega);have hll:=hK.ll;by_cases hlt:done<ready.length
    ·obtain⟨x,hx⟩:∃x,ready[done]?=some x:=⟨_,z9e hlt⟩
     have hxn:=hK.rn x (List.mem_of_getElem? hx);have c1:(done:Int)<ready.length:=by omega
     obtain⟨L,hL⟩:∃L,fo[x]?=some L:=⟨_,z9e (by rw[hfo.len];exact hxn)⟩
     have hLn:=hfo.node hL (Nat.le_refl _);have hLt:=hfo.total hL hn (λy hy=>h.insl hy);have hLc:∀a,a<c.nodes.length→cnt L a=(a3h c.nodes a).count x:=λa ha=>by rw[hfo.num x L hL a,if_pos ha]
     have hg:=c2q hL hxn;cases hLL:L with
     |nil=>
      subst hLL;simp only[List.map_nil,slF]at hg
      (repeat first|simp only[ww]|(apply xa;simp+decide only[go_sem,c1,hlt,hx,hwd,hg];rfl;kernel_rfl))
      refine a54 (c.nodes.length-(done+1)) (by omega) ⟨_,_,?_,out,left,ready,done+1,rfl,rfl,rfl,hK.next hx hLc,hol,λv hv=>by have:=hob v hv;omega,hV.next hx hLc⟩;rw[a3u 3 hneE,a3v 1 hneE]
      (simp+decide only[go_sem,a01,a00,a18,a2p]<;>rfl)
     |cons l0 lr=>
      rw[hLL]at hg;simp only[List.map_cons,slF]at hg;rw[←List.map_cons,←hLL]at hg;have hLp:L.length≠0:=by rw[hLL];simp
      have hLi:¬(L.length:Int)=0:=by omega
      have hLl:(L.map a36).length=L.length:=List.length_map ..
      (repeat first|simp only[ww]|(apply xa;simp+decide only[go_sem,c1,hlt,hx,hwd,hg,hLi,hLl];rfl;kernel_rfl))
      refine a9v kp84_4 (JL4 c fo done x L) (L.length-0) ?_ ?_
      ·refine⟨_,_,?_,out,left,ready,0,rfl,Nat.zero_le _,rfl,rfl,by rw[List.take_zero];exact hK,hx,hol,λv hv=>by have:=hob v hv;omega,by rw[List.take_zero];exact hV⟩;rw[a3u 3 hneE,a3v 1 hneE]
       (simp+decide only[go_sem,a01,a00,a18,a2p]<;>rfl)<;>rfl
      ·clear hK hbd hdl hneE hll hob hol hx hlt c1 hne hV
       rintro n F H ⟨out,left,ready,q,rfl,hq,rfl,rfl,hK,hx,hol,hob,hV⟩
       have hbd:=hK.bound;have hdlt:=(List.getElem?_eq_some_iff.1 hx).1;have hne:ready≠[]:=by rintro rfl;simp at hdlt
       have hneE:ready.map a0z≠[]:=by simpa using hne
       rw[a3u 3 hneE,a3v 1 hneE,List.length_map];have hll:=hK.ll;have hwq:=wI1 (n:=q) (by omega);by_cases hql:q<L.length
       ·obtain⟨l,hl⟩:∃l,L[q]?=some l:=⟨_,z9e hql⟩
        obtain⟨a,p⟩:=l;have han:a<c.nodes.length:=hLn (a,p) (List.mem_of_getElem? hl);obtain⟨y,hy⟩:∃y,c.nodes[a]?=some y:=⟨_,z9e han⟩
        have c2:(q:Int)<L.length:=by omega
        have k14:=h.kind y (List.mem_of_getElem? hy);have hcb:=λH=>a7u (d:=false) H y.kind (by omega);have ht:=a14 hl;have hlR:(L.map a36)[q]?=some [.int .i64 a,.int .i64 p]:=by rw[List.getElem?_map,hl];rfl
        by_cases hcm:a10 y.kind=true
        ·have hkc:a10 (a0p c.nodes a)=true:=by rw[a1a hy];exact hcm
         have hcn:Pc.cnt (L.take q++[(a,p)]) a≤b2c c.nodes ready done a:=by refine Nat.le_trans ?_ (c1r hK.nd hx);rw[←hLc a han,←ht];unfold Pc.cnt;exact List.Sublist.count_le _ ((List.take_sublist _ _).map _)
         have hps:=hK.pos han hkc hcn;have hna:a∉ready:=λhm=>by have:=(hK.zero a han).1 hm;omega
         have hdc:=hK.dec han hkc hcn;rw[←ht]at hdc;obtain⟨va,hva⟩:∃v,out[a]?=some v:=⟨_,z9e (by omega)⟩
         obtain⟨vx,hvx⟩:∃v,out[x]?=some v:=⟨_,z9e (by omega)⟩
         obtain⟨w,hw⟩:∃v,left[a]?=some v:=⟨_,z9e (by omega)⟩
         have hwD:left.getD a 0=w:=by rw[List.getD,hw];rfl
         rw[hwD]at hps hdc;have bx:=hob vx (List.mem_of_getElem? hvx);have ba:=hob va (List.mem_of_getElem? hva);have hw1:=wI1 (n:=vx) (by omega);have hw2:IntKind.i64.wrap ((w:Int)-1)=((w-1:Nat):Int):=by
          have hwl:w≤100000:=by have h1:=hK.eq a han hkc;rw[hwD]at h1;have h2:b2c c.nodes ready done a≤(a3h c.nodes a).length:=List.length_filter_le _ _;rw[a4j hy]at h2;have h3:=h.insl (List.mem_of_getElem? hy);omega
          rw[w64 (by omega) (by omega)];omega
         have hmx:c40 (.int .i64 va) [.int .i64 ((vx+1:Nat):Int)]=some (.int .i64 ((max va (vx+1):Nat):Int)):=b9a _ _;have hsO:(out.map a0z).set a [AV.int .i64 ((max va (vx+1):Nat):Int)]=(out.set a (max va (vx+1))).map a0z:=by rw[List.map_set];rfl
         have hsL:(left.map a0z).set a [AV.int .i64 ((w-1:Nat):Int)]=(left.set a (w-1)).map a0z:=by rw[List.map_set];rfl
         have hgw:(left.set a (w-1))[a]?=some (w-1):=by rw[List.getElem?_set];simp;omega
         have hlo:(left.set a (w-1)).length=c.nodes.length:=by rw[List.length_set];exact hll
         have hoO:(out.set a (max va (vx+1))).length=c.nodes.length:=by rw[List.length_set];exact hol
         have hob2:∀v∈out.set a (max va (vx+1)),v≤300*done+(q+1):=by
          intro v hv;rcases List.mem_or_eq_of_mem_set hv with hv|rfl
          ·have:=hob v hv;omega
          ·omega
         have hdn:done<c.nodes.length:=by omega
         have han':a<left.length:=by omega
         have hxl:x<out.length:=by omega
         by_cases hz:w-1=0
         ·rw[if_pos hz]at hdc;have hz':decide (((w-1:Nat):Int)=0)=true:=decide_eq_true (by omega);have hrm2:ready.length+1≤1000000000:=by omega
          have hx':(ready++[a])[done]?=some x:=by rw[List.getElem?_append_left hdlt];exact hx
          (repeat first|simp only[ww]|(apply xa;simp+decide only[go_sem,c2,hql,hlR,hy,hcb,hcm,hwq,han,hva,hvx,hw,hol,hll,hxn,hw1,hw2,hmx,hsO,hsL,hgw,hlo,hoO,hz',hrm2];rfl;kernel_rfl))
          refine a54 (L.length-(q+1)) (by omega) ⟨_,_,?_,out.set a (max va (vx+1)),left.set a (w-1),ready++[a],q+1,rfl,hql,rfl,rfl,hdc,hx',hoO,hob2,by rw[ht];exact hV.dec hx hna hva hvx (.inr rfl)⟩
          (simp+decide only[go_sem,a01,a00,b3u,b8n,a18,a2p]<;>rfl)<;>rfl
         ·rw[if_neg hz]at hdc;have hz':¬((w-1:Nat):Int)=0:=by omega
          (repeat first|simp only[ww]|(apply xa;simp+decide only[go_sem,c2,hql,hlR,hy,hcb,hcm,hwq,han,hva,hvx,hw,hol,hll,hxn,hw1,hw2,hmx,hsO,hsL,hgw,hlo,hoO,hz'];rfl;kernel_rfl))
          refine a54 (L.length-(q+1)) (by omega) ⟨_,_,?_,out.set a (max va (vx+1)),left.set a (w-1),ready,q+1,rfl,hql,rfl,rfl,hdc,hx,hoO,hob2,by rw[ht];exact hV.dec hx hna hva hvx (.inl rfl)⟩;rw[a3u 3 hneE,a3v 1 hneE]
          (simp+decide only[go_sem,a01,a00,a18,a2p]<;>rfl)<;>rfl
        ·have hcm:a10 y.kind=false:=by simpa using hcm
         (repeat first|simp only[ww]|(apply xa;simp+decide only[go_sem,c2,hql,hlR,hy,hcb,hcm,hwq,han];rfl;kernel_rfl))
         refine a54 (L.length-(q+1)) (by omega) ⟨_,_,?_,out,left,ready,q+1,rfl,hql,rfl,rfl,by rw[ht];exact hK.skip (by rw[a1a hy];exact hcm),hx,hol,λv hv=>by have:=hob v hv;omega,by rw[ht];exact hV.skip (by rw[a1a hy];exact hcm)⟩;rw[a3u 3 hneE,a3v 1 hneE]
         (simp+decide only[go_sem,a01,a00,a18,a2p]<;>rfl)<;>rfl
       ·obtain rfl:q=L.length:=by omega
        have c2:¬(L.length:Int)<L.length:=by omega
        rw[List.take_length]at hK hV
        (repeat first|simp only[ww]|(apply xa;simp+decide only[go_sem,c2];rfl;kernel_rfl))
        refine a54 (c.nodes.length-(done+1)) (by omega) ⟨_,_,?_,out,left,ready,done+1,rfl,rfl,rfl,hK.next hx hLc,hol,λv hv=>by have:=hob v hv;omega,hV.next hx hLc⟩;rw[a3u 3 hneE,a3v 1 hneE]
        (simp+decide only[go_sem,a01,a00,a18,a2p]<;>rfl)<;>rfl
    ·obtain rfl:done=ready.length:=by omega
     have c1:¬(ready.length:Int)<ready.length:=by omega
     have hall:=hK.all h.acyc;have c2:¬(ready.length:Int)<c.nodes.length:=by omega
     (repeat first|simp only[ww]|(apply xa;simp+decide only[go_sem,c1,c2];rfl;kernel_rfl))
     refine c8h (vs:=[.slice 1 0 c.nodes.length (some c.nodes.length),.int .i64 0]) (r:=(_,[])) (by simp+decide only[go_sem]) ?_ ⟨out,hol,λv hv=>by have:=hob v hv;omega,hV.all hK hall,rfl⟩;show a42 false 0 (.tuple [.slice 1 0 c.nodes.length (some c.nodes.length),.int .i64 0]) _=_;rw[←hol];simp+decide only[go_sem,c8f]
theorem b6y(c:Cir)(h:c.wf):∃lv:List Nat,lv.length=c.nodes.length∧(∀v∈lv,v≤100000)∧c3t c.nodes lv∧∀(d:Bool) (H:a03),a0o L.env d (sem L.env Mf) (.func (.func 84) [] []) [.agg c.enc] H=some (.tuple [.islice (lv.map a0z) (some c.nodes.length),.int .i64 0],H,[]):=by obtain⟨r,⟨lv,h1,h2,hR,rfl⟩,h3⟩:=c28 c h;exact⟨lv,h1,h2,hR,λd H=>a08 (by kernel_rfl) (by kernel_rfl) rfl (a52 c) h3 rfl⟩
theorem c20(c:Cir)(h:c.wf):sem L.env Mf 34 [.agg c.enc] []=some (.int .i64 0,[]):=by
 obtain⟨lv,_,_,_,hc⟩:=b6y c h;have hc:=hc false;simp only[Cir.enc]at hc⊢
 (refine sv Tryz.f34 ?_;simp only[Tryz.f34,gS])
 (repeat first|simp only[ww]|(apply xa;simp+decide only[go_sem,hc];rfl;kernel_rfl))
 (apply fqb;simp+decide only[go_sem]<;>rfl)
theorem b6t{d:Bool}(H:a03)(c:Cir)(h:c.wf):a0o L.env d (sem L.env Mf) (.func (.func 34) [] []) [.agg c.enc] H=some (.int .i64 0,H,[]):=a08 (by kernel_rfl) (by kernel_rfl) rfl (a52 c) (c20 c h) rfl
/- dependence, by the statements -/
/- the statements' own check of a bridge -/
theorem b87(nodes:List Nd)(k:Nat):(kinds nodes k).length≤nodes.length:=b5d _ _ _
/- patterns that fit -/
theorem c2e:sem L.env Mf 208 [.str (a0q 14)] []=some (.bool true,[]):=a0g (E:=L.env) a0m 60 (by kernel_rfl)
theorem c2d:sem L.env Mf 208 [.str (a0q 15)] []=some (.bool true,[]):=a0g (E:=L.env) a0m 60 (by kernel_rfl)
def a5y(c:Cir)(mm:Mm):AV:=.func (.func 211) [] [.iptr (a1s c mm)]
theorem b9q(c:Cir)(mm:Mm):refs (a5y c mm)=[]:=by rfl
theorem b6q(c:Cir)(mm:Mm):sem L.env Mf 175 [.agg (a1s c mm)] []=some (a5y c mm,[]):=by
 unfold a5y;simp only[a1s,a6s]
 (refine sv Tryz.f175 ?_;simp only[Tryz.f175,gS])
 (repeat first|simp only[ww]|(apply xa;simp+decide only[go_sem];rfl;kernel_rfl))
 (apply fqb;simp+decide only[go_sem]<;>rfl)
theorem a45{d:Bool}(H:a03)(c:Cir)(mm:Mm):a0o L.env d (sem L.env Mf) (.func (.func 175) [] []) [.agg (a1s c mm)] H=some (a5y c mm,H,[]):=a08 (by kernel_rfl) (by kernel_rfl) rfl (by simp only[a0n,a2u,a1s,a6s,go_sem]) (b6q c mm) rfl
theorem c4j(c:Cir)(mm:Mm)(m:Nat)(hm:m<c.nodes.length):sem L.env Mf 211 [.int .i64 m,.iptr (a1s c mm)] []=some (.bool false,[]):=by
 have c1:¬(m:Int)<0:=by omega
 have c2:¬(c.nodes.length:Int)≤m:=by omega
 simp only[a1s,a6s]
 (refine sv Tryz.f211 ?_;simp only[Tryz.f211,gS])
 (repeat first|simp only[ww]|(apply xa;simp+decide only[go_sem,c1,c2];rfl;kernel_rfl))
 (apply fqb;simp+decide only[go_sem]<;>rfl)
theorem a8b{d:Bool}(H:a03)(c:Cir)(mm:Mm)(m:Nat)(hm:m<c.nodes.length):a0o L.env d (sem L.env Mf) (a5y c mm) [.int .i64 m] H=some (.bool false,H,[]):=a08 (by kernel_rfl) (by kernel_rfl) rfl (by simp only[a0n,a1s,a6s,go_sem]) (c4j c mm m hm) rfl
theorem a6v{d:Bool}(H:a03)(c:Cir)(mm:Mm)(r:Rep)(l:List Nat)(hl:l.length<1000000)(h:∀m∈l,m<c.nodes.length) :
 a0o L.env d (sem L.env Mf) (.func (.func 174) [] []) [sl r (l.map a0z),a5y c mm] H=some (.bool false,H,[]):=
 a08 (by kernel_rfl) (by kernel_rfl) rfl (by simp only[List.nil_append,List.append_nil,a0n,b9q,go_sem]) (b2y r l (a5y c mm) rfl hl (λm hm=>a8b [] c mm m (h m hm))) rfl
/- the drivers of a bus -/
theorem c1u(c:Cir)(mm:Mm)(m:Nat)(hm:m<c.nodes.length)(hk:a0p c.nodes m=12):sem L.env Mf 206 [.int .i64 m,.ptr 0 0 0] [some (.row 4 [(a1s c mm)])]=some (.bool false,[some (.row 4 [(a1s c mm)])]):=by
 obtain⟨x,hx⟩:∃x,c.nodes[m]?=some x:=⟨_,z9e hm⟩
 rw[a1a hx]at hk;simp only[a1s,a6s]
 (refine sv Tryz.f206 ?_;simp only[Tryz.f206,gS])
 (repeat first|simp only[ww]|(apply xa;simp+decide only[go_sem,hx,hk,hm];rfl;kernel_rfl))
 (apply fqb;simp+decide only[go_sem]<;>rfl)
theorem a48(c:Cir)(mm:Mm):FlatR [(a1s c mm)]:=FlatR.cons (by simp only[a1s,a6s,go_sem]) FlatR.nil
theorem b6r{d:Bool}(H:a03)(c:Cir)(mm:Mm)(b m:Nat)(hb:a02 H b=some (.row 4 [(a1s c mm)]))(hm:m<c.nodes.length)(hk:a0p c.nodes m=12):a0o L.env d (sem L.env Mf) (.func (.func 206) [] [.ptr b 0 0]) [.int .i64 m] H=some (.bool false,H,[b]):=a3b (fs:=[]) (cs:=[.ptr b 0 0]) (ar:=[.int .i64 m]) (by kernel_rfl) (by kernel_rfl) rfl hb (a24 (a48 c mm)) (FlatO.row (a48 c mm)) rfl (args':=[.int .i64 m,.ptr 0 0 0]) (by simp[ren,a93]) (c1u c mm m hm hk) rfl
theorem b72(r:Rep)(l:List Nat)(c:Cir)(mm:Mm)(hl:l.length<1000000)(hc:∀m∈l,m<c.nodes.length∧a0p c.nodes m=12) :
 sem L.env Mf 210 [sl r (l.map a0z),.func (.func 206) [] [.ptr 0 0 0]] [some (.row 4 [(a1s c mm)])]=some (.int .i64 (-1),[some (.row 4 [(a1s c mm)])]):=by
 have hfl:a0c (a1s c mm)=[]:=by simp only[a1s,a6s,go_sem]
 have hrn:∀π,(a1s c mm).map (ren π)=(a1s c mm):=λπ=>a2a π hfl;have hcall:=λm h1 h2=>b6r (d:=false) [some (.row 4 [(a1s c mm)])] c mm 0 m rfl h1 h2;generalize he:(a1s c mm)=E at hfl hrn hcall
 (refine sv Tryz.f210 ?_;simp only[Tryz.f210,gS])
 (repeat first|simp only[ww]|(apply xa;simp+decide only[go_sem];rfl;kernel_rfl))
 refine a13 (σ:=Nat) kp210_0 (λi=>[(0,sl r (l.map a0z)),(1,.func (.func 206) [] [.ptr 0 0 0]),(7,.int .i64 l.length),(8,.int .i64 i)])
  (λ_=>[some (.row 4 [E])]) (λi=>l.length-i) (λi=>i≤l.length) 0 ?_ (Nat.zero_le _) ?_
 ·(simp+decide only[go_sem,a01,a00,hfl,hrn]<;>rfl)
 ·intro i hi;by_cases hlt:i<l.length
  ·obtain⟨x,hx⟩:∃x,l[i]?=some x:=⟨_,z9e hlt⟩
   have c1:(i:Int)<l.length:=by omega
   have hw:=wI1 (n:=i) (by omega);have hcx:=hcall x (hc x (List.mem_of_getElem? hx)).1 (hc x (List.mem_of_getElem? hx)).2
   (repeat first|simp only[ww]|(apply xa;simp+decide only[go_sem,c1,hlt,hx,hw,hcx];rfl;kernel_rfl))
   refine a1k (i+1) ?_ (by omega) (by omega)
   (simp+decide only[go_sem,a01,a00,hfl,hrn]<;>rfl)
  ·obtain rfl:i=l.length:=by omega
   have c1:¬(l.length:Int)<l.length:=by omega
   (repeat first|simp only[ww]|(apply xa;simp+decide only[go_sem,c1];rfl;kernel_rfl))
   (apply fqb;simp+decide only[go_sem,hrn]<;>rfl)
theorem b42(r:Rep)(l:List Nat)(c:Cir)(mm:Mm)(hl:l.length<1000000)(hc:∀m∈l,m<c.nodes.length∧a0p c.nodes m=12) :
 sem L.env Mf 174 [sl r (l.map a0z),.func (.func 206) [] [.ptr 0 0 0]] [some (.row 4 [(a1s c mm)])]=some (.bool false,[some (.row 4 [(a1s c mm)])]):=by
 have h:=a3b (E:=L.env) (draw:=false) (call:=sem L.env Mf) (g:=210) (fs:=[]) (cs:=[]) (ar:=[sl r (l.map a0z),.func (.func 206) [] [.ptr 0 0 0]]) (H:=[some (.row 4 [(a1s c mm)])]) (b:=0) (by kernel_rfl) (by kernel_rfl) rfl rfl (a24 (a48 c mm)) (FlatO.row (a48 c mm)) (by simp only[List.nil_append,List.append_nil,a0n,go_sem]) (by simp only[List.nil_append,List.append_nil,List.map_cons,List.map_nil,b7y];simp[ren,b6b,a93]) (b72 r l c mm hl hc) rfl;have c1:¬(0:Int)≤ -1:=by omega
 have hfl:a0c (a1s c mm)=[]:=by simp only[a1s,a6s,go_sem]
 have hrn:∀π,(a1s c mm).map (ren π)=(a1s c mm):=λπ=>a2a π hfl;generalize he:(a1s c mm)=E at hfl hrn h
 (refine sv Tryz.f174 ?_;simp only[Tryz.f174,gS])
 (repeat first|simp only[ww]|(apply xa;simp+decide only[go_sem,h,c1];rfl;kernel_rfl))
 (apply fqb;simp+decide only[go_sem,hrn]<;>rfl)
theorem b5v{d:Bool}{H:a03}{b:Nat}(c:Cir)(mm:Mm)(r:Rep)(l:List Nat)(hl:l.length<1000000)(hc:∀m∈l,m<c.nodes.length∧a0p c.nodes m=12)(hb:a02 H b=some (.row 4 [(a1s c mm)])) :
 a0o L.env d (sem L.env Mf) (.func (.func 174) [] []) [sl r (l.map a0z),.func (.func 206) [] [.ptr b 0 0]] H=some (.bool false,H,[b]):=
 a3b (fs:=[]) (cs:=[]) (ar:=[sl r (l.map a0z),.func (.func 206) [] [.ptr b 0 0]]) (by kernel_rfl) (by kernel_rfl) rfl hb (a24 (a48 c mm)) (FlatO.row (a48 c mm)) (by simp only[List.nil_append,List.append_nil,a0n,go_sem]) (by simp only[List.nil_append,List.append_nil,List.map_cons,List.map_nil,b7y];simp[ren,b6b,a93]) (b42 r l c mm hl hc) rfl
theorem c8s(c:Cir)(mm:Mm)(x:Nd)(hm:(x.kind≤14∧x.mem=0∧x.bit=0)∨(x.kind=15∧x.mem=0∧x.bit≤1)):sem L.env Mf 207 [.agg (a1s c mm),.agg x.enc] []=some (.bool true,[]):=by
 rcases hm with ⟨hk,m1,m2⟩|⟨hk,m1,m2⟩
 ·have c1:¬(x.kind:Int)=15:=by omega
  simp only[a1s,a6s,Nd.enc,m1,m2]
  (refine sv Tryz.f207 ?_;simp only[Tryz.f207,gS])
  (repeat first|simp only[ww]|(apply xa;simp+decide only[go_sem,c1];rfl;kernel_rfl))
  (apply fqb;simp+decide only[go_sem]<;>rfl)
 ·have h01:x.bit=0∨x.bit=1:=by omega
  simp only[a1s,a6s,Nd.enc,m1,hk];rcases h01 with m2|m2
  ·rw[m2]
   (refine sv Tryz.f207 ?_;simp only[Tryz.f207,gS])
   (repeat first|simp only[ww]|(apply xa;simp+decide only[go_sem];rfl;kernel_rfl))
   (apply fqb;simp+decide only[go_sem]<;>rfl)
  ·rw[m2]
   (refine sv Tryz.f207 ?_;simp only[Tryz.f207,gS])
   (repeat first|simp only[ww]|(apply xa;simp+decide only[go_sem];rfl;kernel_rfl))
   (apply fqb;simp+decide only[go_sem]<;>rfl)
theorem c35{d:Bool}(H:a03)(c:Cir)(mm:Mm)(x:Nd)(hm:(x.kind≤14∧x.mem=0∧x.bit=0)∨(x.kind=15∧x.mem=0∧x.bit≤1)):a0o L.env d (sem L.env Mf) (.func (.func 207) [] []) [.agg (a1s c mm),.agg x.enc] H=some (.bool true,H,[]):=a08 (by kernel_rfl) (by kernel_rfl) rfl (by simp only[a0n,a2u,a1s,a6s,go_sem]) (c8s c mm x hm) rfl
theorem c4n(c:Cir)(mm:Mm)(h:wfM c mm)(x:Nd)(hx:x∈c.nodes):sem L.env Mf 171 [.agg (a1s c mm),.agg x.enc] []=some (.int .i64 0,[]):=by
 have k14:=h.kind x hx;have hlo:=h.lo x hx;have hhi:=h.hi x hx;have hlen:x.ins.length<1000000:=by
  have:a21 x.kind≤16:=by
   have hk:x.kind=0∨x.kind=1∨x.kind=2∨x.kind=3∨x.kind=4∨x.kind=5∨x.kind=6∨x.kind=7∨x.kind=8∨x.kind=9∨x.kind=10∨x.kind=11∨x.kind=12∨x.kind=13∨x.kind=14∨x.kind=15:=by omega
   rcases hk with e|e|e|e|e|e|e|e|e|e|e|e|e|e|e|e<;>rw[e]<;>decide
  omega
 have hf:=λH=>b2t (d:=false) H x.kind (by omega);have ho:=λH=>a45 (d:=true) H c mm;have hc:=λH=>a6v (d:=true) H c mm x.c x.ins hlen (h.ins x hx);have hb:=λH=>c35 (d:=false) H c mm x (h.mem x hx);have c1:¬(15:Int)<x.kind:=by omega
 have c2:¬(x.ins.length:Int)<a2w x.kind:=by omega
 have c3:¬(a21 x.kind:Int)<x.ins.length:=by omega
 have hfl:a0c (a1s c mm)=[]:=by simp only[a1s,a6s,go_sem]
 by_cases hk:x.kind=13
 ·have hoth:=λ(X:Option AObj)=>b5v (d:=false) (H:=[some (.row 4 [(a1s c mm)]),X]) (b:=0) c mm x.c x.ins hlen (λm hm=>⟨h.ins x hx m hm,h.bus x hx hk m hm⟩) rfl;have ck:decide ((x.kind:Int)=13)=true:=decide_eq_true (by omega);simp only[a1s,a6s,Nd.enc]at ho hc hb hoth⊢
  (refine sv Tryz.f171 ?_;simp only[Tryz.f171,gS])
  (repeat first|simp only[ww]|(apply xa;simp+decide only[go_sem,hf,c1,c2,c3,ho,hc,hb,hoth,ck];rfl;kernel_rfl))
  (apply fqb;simp+decide only[go_sem]<;>rfl)
 ·have ck:¬(x.kind:Int)=13:=by omega
  simp only[a1s,a6s,Nd.enc]at ho hc hb⊢
  (refine sv Tryz.f171 ?_;simp only[Tryz.f171,gS])
  (repeat first|simp only[ww]|(apply xa;simp+decide only[go_sem,hf,c1,c2,c3,ho,hc,hb,ck];rfl;kernel_rfl))
  (apply fqb;simp+decide only[go_sem]<;>rfl)
theorem b9w{d:Bool}(H:a03)(c:Cir)(mm:Mm)(h:wfM c mm)(x:Nd)(hx:x∈c.nodes):a0o L.env d (sem L.env Mf) (.func (.func 171) [] []) [.agg (a1s c mm),.agg x.enc] H=some (.int .i64 0,H,[]):=a08 (by kernel_rfl) (by kernel_rfl) rfl (by simp only[a0n,a2u,a1s,a6s,go_sem]) (c4n c mm h x hx) rfl
theorem c0b(i:Nat)(hi:i<16):sem L.env Mf 208 [.str (a0q i)] []=some (.bool true,[]):=by
 have h:i=0∨i=1∨i=2∨i=3∨i=4∨i=5∨i=6∨i=7∨i=8∨i=9∨i=10∨i=11∨i=12∨i=13∨i=14∨i=15:=by omega
 rcases h with rfl|rfl|rfl|rfl|rfl|rfl|rfl|rfl|rfl|rfl|rfl|rfl|rfl|rfl|rfl|rfl
 ·exact b8i
 ·exact b8h
 ·exact b8g
 ·exact b8f
 ·exact b8e
 ·exact b8d
 ·exact b8c
 ·exact b8b
 ·exact b8a
 ·exact b89
 ·exact b5j
 ·exact b5i
 ·exact b5h
 ·exact b5g
 ·exact c2e
 ·exact c2d
theorem b5f{d:Bool}(H:a03)(i:Nat)(hi:i<16):a0o L.env d (sem L.env Mf) (.func (.func 208) [] []) [.str (a0q i)] H=some (.bool true,H,[]):=a08 (by kernel_rfl) (by kernel_rfl) rfl rfl (c0b i hi) rfl
theorem c02{i j:Nat}(hi:i<16)(hj:j<16)(h:a0q i=a0q j):i=j:=by unfold a0q at h;simp only[List.cons.injEq,and_true,true_and]at h;have h1:=congrArg UInt8.toNat h.1;have h2:=congrArg UInt8.toNat h.2;simp only[UInt8.toNat_ofNat']at h1 h2;omega
theorem b8x(s:Nat)(hs:s<16):∀(l:List Nat) (b:Nat),(∀j∈l,j<s)→a0x (aeq L.env 6 9) (.str (a0q s)) (l.map λj=>.str (a0q j)) b=some none
 | [],b,_=>rfl
 |j::l,b,h=>by
  have hne:(a0q s==a0q j)=false:=by rw[beq_eq_false_iff_ne];intro e;have:=c02 hs (by have:=h j (by simp);omega) e;have:=h j (by simp);omega
  simp only[List.map_cons,a0x,eqS,hne,cond_false];exact b8x s hs l (b+1) (λj hj=>h j (by simp[hj]))
theorem b85(i:Nat)(hi:i<16):a0x (aeq L.env 6 9) (.str (a0q i)) (a3t i) 0=some none:=b8x i hi _ 0 (λj hj=>by simpa using hj)
theorem b9z(i:Nat)(hi:i<16):a3j L.env (a02 [some (nmO i)]) 122 (.map 0) (.str (a0q i)) false=some (.bool false):=by
 have h:=b85 i hi;have e:a3j L.env (a02 [some (nmO i)]) 122 (.map 0) (.str (a0q i)) false=match a0x (aeq L.env 6 9) (.str (a0q i)) (a3t i) 0 with
  |some (some j)=>match(List.replicate i (AV.bool true))[j]? with
   |some v=>some (bif false then .tuple [v,.bool true]else v)
   |none=>none
  |some none=>some (.bool false)
  |none=>none:=by kernel_rfl
 rw[e,h]
theorem b9y(i:Nat)(hi:i<16):a12 L.env (a02 [some (nmO i)]) 122 (.map 0) (.str (a0q i)) (.bool true)=some (.set 0 (nmO (i+1))):=by
 have h:=b85 i hi;unfold a12;have e:a6h L.env (a02 [some (nmO i)]) 122 (.map 0) (.str (a0q i))=match a0x (aeq L.env 6 9) (.str (a0q i)) (a3t i) 0 with
  |some (some j)=>match(a3t i)[j]? with
   |some k0=>bif c38 k0 (.str (a0q i))then some (0,a3t i,List.replicate i (AV.bool true),List.range i,i,some j)else none
   |none=>none
  |some none=>some (0,a3t i,List.replicate i (AV.bool true),List.range i,i,none)
  |none=>none:=by kernel_rfl
 rw[e,h];simp only[nmO,b0f,List.range_succ,List.replicate_succ']
theorem c21(c:Cir)(mm:Mm)(h:wfM c mm):sem L.env Mf 172 [.agg (a1s c mm)] []=some (.int .i64 0,[]):=by
 have hn:=h.len;have hnm:c.names.length=c.nodes.length:=by rw[h.names];simp
 simp only[a1s,a6s]
 (refine sv Tryz.f172 ?_;simp only[Tryz.f172,gS])
 (repeat first|simp only[ww]|(apply xa;simp+decide only[go_sem];rfl;kernel_rfl))
 have e0:AObj.map [] [] [] 0=nmO 0:=by rfl
 refine a13 (σ:=Nat) kp172_0 (λi=>[(3,.map 0),(8,sl c.mc (c.names.map b1l)),(9,.int .i64 c.names.length),(10,.int .i64 i)])
  (λi=>[some (nmO i)]) (λi=>c.names.length-i) (λi=>i≤c.names.length) 0 ?_ (Nat.zero_le _) ?_
 ·rw[e0]
  (simp+decide only[go_sem,a01,a00,b0e,b84]<;>rfl)
 ·intro i hi;by_cases hlt:i<c.names.length
  ·have hx:c.names[i]?=some (a0q i):=by rw[h.names,List.getElem?_map,List.getElem?_range (by omega)];rfl
   have c1:(i:Int)<c.names.length:=by omega
   have hw:=wI1 (n:=i) (by omega);have hcn:=λH=>b5f (d:=false) H i (by omega);have hlk:=b9z i (by omega);have hup:=b9y i (by omega)
   (repeat first|simp only[ww]|(apply xa;simp+decide only[go_sem,c1,hlt,hx,hw,hcn,hlk,hup];rfl;kernel_rfl))
   refine a1k (i+1) ?_ (by omega) (by omega)
   (simp+decide only[go_sem,a01,a00,b0e,b84]<;>rfl)
  ·obtain rfl:i=c.names.length:=by omega
   have c1:¬(c.names.length:Int)<c.names.length:=by omega
   (repeat first|simp only[ww]|(apply xa;simp+decide only[go_sem,c1];rfl;kernel_rfl))
   (apply fqb;simp+decide only[go_sem]<;>rfl)
theorem b7k(r:List AV)(rs:List (List AV))(c:Option Nat)(n:Nat)(h:rs.length+1≤n):sem L.env Mf 209 [.islice (r::rs) c,.int .i64 n] []=some (.bool false,[]):=by
 have c1:¬((rs.length+1:Nat):Int)=0:=by omega
 have c2:¬(n:Int)<((rs.length+1:Nat):Int):=by omega
 (refine sv Tryz.f209 ?_;simp only[Tryz.f209,gS])
 (repeat first|simp only[ww]|(apply xa;simp+decide only[go_sem,c1,c2,List.length_cons];rfl;kernel_rfl))
 (apply fqb;simp+decide only[go_sem]<;>rfl)
theorem c22(c:Cir)(mm:Mm)(h:wfM c mm):sem L.env Mf 173 [.agg (a1s c mm),.agg [.islice [[.int .i64 mm.a]] (some 1),.islice [[.int .i64 mm.d0],[.int .i64 mm.d1]] (some 2),.int .i64 mm.w]] []=some (.int .i64 0,[]):=by
 obtain⟨p0,p1,p2,p3⟩:=h.port;have ho:=λH=>a45 (d:=false) H c mm;have hc1:=λ(d:Bool) H=>a6v (d:=d) H c mm (some (some 1)) [mm.a] (by simp) (by simp;exact p0);have hc2:=λ(d:Bool) H=>a6v (d:=d) H c mm (some (some 2)) [mm.d0,mm.d1] (by simp) (by simp;exact⟨p1,p2⟩);have hc3:=λ(d:Bool) H=>a8b (d:=d) H c mm mm.w p3;have hw1:=λ(d:Bool) (H:a03)=>a08 (E:=L.env) (draw:=d) (call:=sem L.env Mf) (H:=H) (g:=209) (fs:=[]) (cs:=[]) (ar:=[.islice [[.int .i64 mm.a]] (some 1),.int .i64 8]) (by kernel_rfl) (by kernel_rfl) rfl rfl (b7k _ [] _ 8 (by simp)) rfl;have hw2:=λ(d:Bool) (H:a03)=>a08 (E:=L.env) (draw:=d) (call:=sem L.env Mf) (H:=H) (g:=209) (fs:=[]) (cs:=[]) (ar:=[.islice [[.int .i64 mm.d0],[.int .i64 mm.d1]] (some 2),.int .i64 32]) (by kernel_rfl) (by kernel_rfl) rfl rfl (b7k _ [[.int .i64 mm.d1]] _ 32 (by simp)) rfl;have hov:refs (a5y c mm)=[]:=rfl;have hst:(a5y c mm).storable=true:=rfl;have hnn:b64 (a5y c mm)=some (a5y c mm):=rfl;simp only[b6i,List.map_cons,List.map_nil,a0z]at hc1 hc2;generalize a5y c mm=O at ho hc1 hc2 hc3 hov hst hnn;simp only[a1s,a6s]at ho⊢
 (refine sv Tryz.f173 ?_;simp only[Tryz.f173,gS])
 (repeat first|simp only[ww]|(apply xa;simp+decide only[go_sem,ho,hc1,hc2,hc3,hw1,hw2,hst,hnn];rfl;kernel_rfl))
 (apply fqb;simp+decide only[go_sem]<;>rfl)
theorem b6v{d:Bool}(H:a03)(c:Cir)(mm:Mm)(h:wfM c mm):a0o L.env d (sem L.env Mf) (.func (.func 173) [] []) [.agg (a1s c mm),.agg [.islice [[.int .i64 mm.a]] (some 1),.islice [[.int .i64 mm.d0],[.int .i64 mm.d1]] (some 2),.int .i64 mm.w]] H=some (.int .i64 0,H,[]):=a08 (by kernel_rfl) (by kernel_rfl) rfl (by simp only[a0n,a2u,a1s,a6s,go_sem]) (c22 c mm h) rfl
theorem a51(c:Cir)(mm:Mm):a0c [.agg (a1s c mm)]=[]:=by simp only[a0n,a2u,a1s,a6s,go_sem]
theorem b6u{d:Bool}(H:a03)(c:Cir)(mm:Mm)(h:wfM c mm):a0o L.env d (sem L.env Mf) (.func (.func 172) [] []) [.agg (a1s c mm)] H=some (.int .i64 0,H,[]):=a08 (by kernel_rfl) (by kernel_rfl) rfl (a51 c mm) (c21 c mm h) rfl
theorem c1g(c:Cir)(mm:Mm)(h:wfM c mm):sem L.env Mf 134 [.agg (a1s c mm)] []=some (.int .i64 0,[]):=by
 have hn:=h.len;have hnm:c.names.length=c.nodes.length:=by rw[h.names];simp
 have hol:=h.outl;have c1:¬(16384:Int)<c.nodes.length:=by omega
 have c2:¬(16384:Int)<c.outs.length:=by omega
 have hno:=λH x hx=>b9w (d:=false) H c mm h x hx;have hna:=λH=>b6u (d:=false) H c mm h;have hou:=λH=>a45 (d:=true) H c mm;have hcf:=λH=>a6v (d:=true) H c mm c.oc c.outs (by omega) h.outs;have hlen:(a1s c mm).length=4:=rfl;simp only[a1s,a6s]at hno hna hou hcf⊢
 (refine sv Tryz.f134 ?_;simp only[Tryz.f134,gS])
 (repeat first|simp only[ww]|(apply xa;simp+decide only[go_sem,c1,c2,hnm];rfl;kernel_rfl))
 refine a13 (σ:=Nat) kp134_1 (λi=>[(1,.ptr 0 0 0),(36,sl c.nc (c.nodes.map Nd.enc)),(37,.int .i64 c.nodes.length),(38,.int .i64 i)])
  (λi=>[some (.row 4 [[sl c.nc (c.nodes.map Nd.enc),sl c.mc (c.names.map b1l),.islice [[.islice [[.int .i64 mm.a]] (some 1),.islice [[.int .i64 mm.d0],[.int .i64 mm.d1]] (some 2),.int .i64 mm.w]] (some 1),sl c.oc (c.outs.map a0z)]])]) (λi=>c.nodes.length-i) (λi=>i≤c.nodes.length) 0 ?_ (Nat.zero_le _) ?_
 ·(simp+decide only[go_sem,a01,a00]<;>rfl)
 ·intro i hi;by_cases hlt:i<c.nodes.length
  ·obtain⟨x,hx⟩:∃x,c.nodes[i]?=some x:=⟨_,z9e hlt⟩
   have c1:(i:Int)<c.nodes.length:=by omega
   have hw:=wI1 (n:=i) (by omega);have hcx:=λH=>hno H x (List.mem_of_getElem? hx);simp only[Nd.enc]at hcx
   (repeat first|simp only[ww]|(apply xa;simp+decide only[go_sem,c1,hlt,hx,hw,hcx];rfl;kernel_rfl))
   refine a1k (i+1) ?_ (by omega) (by omega)
   (simp+decide only[go_sem,a01,a00]<;>rfl)
  ·obtain rfl:i=c.nodes.length:=by omega
   have c1:¬(c.nodes.length:Int)<c.nodes.length:=by omega
   (repeat first|simp only[ww]|(apply xa;simp+decide only[go_sem,c1,hna];rfl;kernel_rfl))
   refine a13 (σ:=Nat) kp134_3 (λi=>[(1,.ptr 0 0 0),(55,.islice [[.islice [[.int .i64 mm.a]] (some 1),.islice [[.int .i64 mm.d0],[.int .i64 mm.d1]] (some 2),.int .i64 mm.w]] (some 1)),(56,.int .i64 1),(57,.int .i64 i)])
    (λi=>[some (.row 4 [[sl c.nc (c.nodes.map Nd.enc),sl c.mc (c.names.map b1l),.islice [[.islice [[.int .i64 mm.a]] (some 1),.islice [[.int .i64 mm.d0],[.int .i64 mm.d1]] (some 2),.int .i64 mm.w]] (some 1),sl c.oc (c.outs.map a0z)]])]) (λi=>1-i) (λi=>i≤1) 0 ?_ (Nat.zero_le _) ?_
   ·(simp+decide only[go_sem,a01,a00]<;>rfl)
   ·intro i hi;by_cases hi0:i=0
    ·subst hi0;have hme:=λ(d:Bool) H=>b6v (d:=d) H c mm h;simp only[a1s,a6s]at hme
     (repeat first|simp only[ww]|(apply xa;simp+decide only[go_sem,hme];rfl;kernel_rfl))
     refine a1k 1 ?_ (by omega) (by omega)
     (simp+decide only[go_sem,a01,a00]<;>rfl)
    ·obtain rfl:i=1:=by omega
     (repeat first|simp only[ww]|(apply xa;simp+decide only[go_sem,hou,hcf];rfl;kernel_rfl))
     (apply fqb;simp+decide only[go_sem]<;>rfl)
theorem b6k{d:Bool}(H:a03)(c:Cir)(mm:Mm)(h:wfM c mm):a0o L.env d (sem L.env Mf) (.func (.func 134) [] []) [.agg (a1s c mm)] H=some (.int .i64 0,H,[]):=a08 (by kernel_rfl) (by kernel_rfl) rfl (a51 c mm) (c1g c mm h) rfl
def J0M(c:Cir)(mm:Mm)(n:Nat)(F:Frm)(H:a03):Prop:=∃i b ids fo,n=c.nodes.length-i∧i≤c.nodes.length∧
 F=[(3,.slice b 0 c.nodes.length (some c.nodes.length)),(4,a5y c mm),(18,sl c.nc (c.nodes.map Nd.enc)),(19,.int .i64 c.nodes.length),(20,.int .i64 i)]∧Two H b 2 ids (λ_=>none) (foE fo)∧FoOk c.nodes i 0 fo
def J2M(c:Cir)(mm:Mm)(i:Nat)(x:Nd)(n:Nat)(F:Frm)(H:a03):Prop:=∃k b ids fo,n=x.ins.length-k∧k≤x.ins.length∧
 F=[(3,.slice b 0 c.nodes.length (some c.nodes.length)),(4,a5y c mm),(5,.int .i64 i),(18,sl c.nc (c.nodes.map Nd.enc)),(19,.int .i64 c.nodes.length),(20,.int .i64 i),(26,sl x.c (x.ins.map a0z)),(27,.int .i64 x.ins.length),(28,.int .i64 k)]∧Two H b 2 ids (λ_=>none) (foE fo)∧FoOk c.nodes i k fo
theorem c0f(c:Cir)(mm:Mm)(h:wfM c mm):∃r:AV×a03,(∃fo,FoOk c.nodes c.nodes.length 0 fo∧r=(AV.islice ((foE fo).mapIdx λj f=>[slF (cpT fo c.nodes.length j) f]) (some c.nodes.length),[]))∧sem L.env Mf 135 [.agg (a1s c mm)] []=some r:=by
 have hn:=h.len;have hou:=λH=>a45 (d:=false) H c mm;have hrm:c.nodes.length≤1000000000:=by omega
 have hov:refs (a5y c mm)=[]:=rfl;have hor:∀π,ren π (a5y c mm)=a5y c mm:=λπ=>a44 π _ rfl;have ho1:=λH m hm=>a8b (d:=false) H c mm m hm;generalize hO:a5y c mm=O at hou hov hor ho1;simp only[a1s,a6s]at hou⊢
 (refine svE Tryz.f135 ?_;simp only[Tryz.f135,gS])
 (repeat first|simp only[ww]|(apply xa;simp+decide only[go_sem,hou,hrm];rfl;kernel_rfl))
 refine a9v kp135_0 (J0M c mm) (c.nodes.length-0) ?_ ?_
 ·refine a1r (b7m _ c.nodes.length 1 rfl) ?_ (by rw[a1i];simp;omega) ?_
  ·exact .inl (by simp+decide only[go_sem,hov])
  ·intro π b' ids' H1 hb hT;refine⟨0,b',ids',_,rfl,Nat.zero_le _,?_,hT,FoOk.zero _⟩;simp+decide only[go_sem,hb,hor,hO]<;>rfl
 ·rintro n F H ⟨i,b,ids,fo,rfl,hi,rfl,hT,hF⟩
  by_cases hlt:i<c.nodes.length
  ·obtain⟨x,hx⟩:∃x,c.nodes[i]?=some x:=⟨_,z9e hlt⟩
   have c1:(i:Int)<c.nodes.length:=by omega
   have hw:=wI1 (n:=i) (by omega);have hbl:=a1n hT.top;have hxi:=a4j hx;rw[hO]
   (repeat first|simp only[ww]|(apply xa;simp+decide only[go_sem,c1,hlt,hx,hw,a55,a4p,a84,a9z,a8f];rfl;kernel_rfl))
   refine a9v kp135_2 (J2M c mm i x) (x.ins.length-0) ?_ ?_
   ·refine a1r (hT.more) ?_ (by rw[a1i,hF.len];omega) ?_
    ·exact .inl (by simp+decide only[go_sem,hov])
    ·intro π b' ids' H1 hb hT;refine⟨0,b',ids',_,rfl,Nat.zero_le _,?_,hT,hF⟩;simp+decide only[go_sem,hb,hor,hO]<;>rfl
   ·rintro n F H ⟨k,b,ids,fo,rfl,hk,rfl,hT,hF⟩
    rw[hO];by_cases hkl:k<x.ins.length
    ·obtain⟨m,hm⟩:∃m,x.ins[k]?=some m:=⟨_,z9e hkl⟩
     have hmn:=h.ins x (List.mem_of_getElem? hx) m (List.mem_of_getElem? hm);have hom:=λH=>ho1 H m hmn;have c2:(k:Int)<x.ins.length:=by omega
     have hil:=h.insl (List.mem_of_getElem? hx);have hw2:=wI1 (n:=k) (by omega);have hbl:=a1n hT.top;have htop:=hT.top;have hmf:m<fo.length:=by rw[hF.len];exact hmn
     obtain⟨L,hL⟩:∃L,fo[m]?=some L:=⟨_,z9e hmf⟩
     have hget:=a65 (ids:=ids) (cp:=λ_=>none) (a2e hL);have hstep:=hF.step (by rw[hxi];exact hm) hL;have hrl:(a3r ids (λ_=>none) (foE fo)).length=c.nodes.length:=by rw[a3q,a1i,hF.len]
     cases L with
     |nil=>
      simp only[List.map_nil,slV]at hget
      (repeat first|simp only[ww]|(apply xa;simp+decide only[go_sem,c2,hkl,hm,hw2,hom,hbl,htop,hmn,hget,a55,a4p,a6t,a84,a9z,b7r,a8f,a9m,List.append_assoc,List.cons_append,List.nil_append,hrl];rfl;kernel_rfl))
      refine a54 (x.ins.length-(k+1)) (by omega) ?_;have hT2:=hT.app1 (o:=some (.row 2 [a36 (i,k)])) (x:=a36 (i,k)) (a2e hL) rfl rfl;have e2:(foE fo).set m [a36 (i,k)]=foE (fo.set m ([]++[(i,k)])):=b3y fo m [] i k;rw[e2]at hT2;refine a1r hT2 ?_ (by rw[a1i,List.length_set,hF.len];omega) ?_
      ·exact .inl (by simp+decide only[go_sem,hov])
      ·intro π b' ids' H1 hb hT;refine⟨k+1,b',ids',_,rfl,hkl,?_,hT,hstep⟩;simp+decide only[go_sem,hb,hor,hO]<;>rfl
     |cons a r=>
      simp only[List.map_cons,slV]at hget;have hsub:=hT.sub m _ (a2e hL) (by simp);obtain⟨s1,s2⟩:=hsub;have s3:=a1n s1;simp only[List.map_cons]at s1;have hLl:r.length+1+1≤1000000000:=by have:=hF.totalM hL (h.len) (λy hy=>h.insl hy);simp only[List.length_cons]at this;omega
      (repeat first|simp only[ww]|(apply xa;simp+decide only[go_sem,c2,hkl,hm,hw2,hom,hbl,htop,hmn,hget,a55,a4p,a6t,b2l,List.length_set,s1,s2,s3,hLl,a84,a9z,b7r,a8f,a9m,List.append_assoc,List.cons_append,List.nil_append,hrl];rfl;kernel_rfl))
      refine a54 (x.ins.length-(k+1)) (by omega) ?_;have hT2:=hT.app2 (o:=some (.row 2 [a36 (i,k)])) (x:=a36 (i,k)) (a2e hL) rfl rfl;have e2:(foE fo).set m (a36 a::List.map a36 r++[a36 (i,k)])=foE (fo.set m (a::r++[(i,k)])):=b3y fo m (a::r) i k;rw[e2]at hT2;rw[List.length_map]at hT2;refine a1r hT2 ?_ (by rw[a1i,List.length_set,hF.len];omega) ?_
      ·exact .inl (by simp+decide only[go_sem,hov])
      ·intro π b' ids' H1 hb hT;refine⟨k+1,b',ids',_,rfl,hkl,?_,hT,hstep⟩;simp+decide only[go_sem,hb,hor,hO]<;>rfl
    ·obtain rfl:k=x.ins.length:=by omega
     have c2:¬(x.ins.length:Int)<x.ins.length:=by omega
     (repeat first|simp only[ww]|(apply xa;simp+decide only[go_sem,c2,hw];rfl;kernel_rfl))
     refine a54 (c.nodes.length-(i+1)) (by omega) ?_;refine a1r hT ?_ (by rw[a1i,hF.len];omega) ?_
     ·exact .inl (by simp+decide only[go_sem,hov])
     ·intro π b' ids' H1 hb hT;refine⟨i+1,b',ids',_,rfl,by omega,?_,hT,hF.next (by rw[hxi])⟩;simp+decide only[go_sem,hb,hor,hO]<;>rfl
  ·obtain rfl:i=c.nodes.length:=by omega
   have c1:¬(c.nodes.length:Int)<c.nodes.length:=by omega
   rw[hO]
   (repeat first|simp only[ww]|(apply xa;simp+decide only[go_sem,c1];rfl;kernel_rfl))
   refine a9v kp135_4 (J4 c fo) (c.nodes.length-0) ?_ ?_
   ·refine a1r hT ?_ (by rw[a1i,hF.len];omega) ?_
    ·exact .inr (by simp+decide only[go_sem,hov])
    ·intro π b' ids' H1 hb hT;refine⟨0,b',ids',rfl,Nat.zero_le _,?_,by rw[b90];exact hT⟩;simp+decide only[go_sem,hb,hor,hO]<;>rfl
   ·rintro n F H ⟨t,b,ids,rfl,ht,rfl,hT⟩
    by_cases htl:t<c.nodes.length
    ·have c2:(t:Int)<c.nodes.length:=by omega
     have hw2:=wI1 (n:=t) (by omega);have hbl:=a1n hT.top;have htop:=hT.top;obtain⟨L,hL⟩:∃L,fo[t]?=some L:=⟨_,z9e (by rw[hF.len];exact htl)⟩
     have hget:=a65 (ids:=ids) (cp:=cpT fo t) (a2e hL);have hct:cpT fo t t=none:=by simp[cpT]
     have hrl:(a3r ids (cpT fo t) (foE fo)).length=c.nodes.length:=by rw[a3q,a1i,hF.len]
     rw[hct]at hget;have hfin:∀H1,H1=H.set b (some (.row 1 ((a3r ids (cpT fo t) (foE fo)).set t [slV (ids t) (some L.length) (L.map a36)])))→Two H1 b 2 ids (cpT fo (t+1)) (foE fo):=by
      intro H1 hH1;have:=hT.clip (H1:=H1) (a2e hL) (by rw[hH1,a95 hbl]) (λc hc=>by rw[hH1,a4o (Ne.symm hc)])
      rwa [b91 hL]at this
     cases L with
     |nil=>
      simp only[List.map_nil,slV]at hget;have hcl:=λH=>b17 (d:=false) H
      (repeat first|simp only[ww]|(apply xa;simp+decide only[go_sem,c2,htl,hw2,hbl,htop,hget,hcl,hrl,List.length_set];rfl;kernel_rfl))
      refine a54 (c.nodes.length-(t+1)) (by omega) ?_;refine a1r (hfin _ rfl) ?_ (by rw[a1i,hF.len];omega) ?_
      ·exact .inr (by simp+decide only[go_sem,hov])
      ·intro π b' ids' H1 hb hT;refine⟨t+1,b',ids',rfl,by omega,?_,hT⟩;simp+decide only[go_sem,hb,hor,hO]<;>rfl
     |cons a r=>
      simp only[List.map_cons,slV]at hget;obtain⟨s1,s2⟩:=hT.sub t _ (a2e hL) (by simp);have hcl:=b2z (d:=false) (H:=H) (b:=ids t) (n:=r.length+1) (hT.flat _ (List.mem_of_getElem? (a2e hL))) s1
      (repeat first|simp only[ww]|(apply xa;simp+decide only[go_sem,c2,htl,hw2,hbl,htop,hget,hcl,hrl,List.length_set];rfl;kernel_rfl))
      refine a54 (c.nodes.length-(t+1)) (by omega) ?_;refine a1r (hfin _ (by simp only[List.map_cons,slV,List.length_map,List.length_cons])) ?_ (by rw[a1i,hF.len];omega) ?_
      ·exact .inr (by simp+decide only[go_sem,hov])
      ·intro π b' ids' H1 hb hT;refine⟨t+1,b',ids',rfl,by omega,?_,hT⟩;simp+decide only[go_sem,hb,hor,hO]<;>rfl
    ·obtain rfl:t=c.nodes.length:=by omega
     have c2:¬(c.nodes.length:Int)<c.nodes.length:=by omega
     have hz:=hT.frz (some c.nodes.length);rw[a1i,hF.len]at hz
     (repeat first|simp only[ww]|(apply xa;simp+decide only[go_sem,c2];rfl;kernel_rfl))
     refine d25 (vs:=[.slice b 0 c.nodes.length (some c.nodes.length)]) (r:=(_,[])) (by simp+decide only[go_sem]) ?_ ⟨fo,hF,rfl⟩;show a42 false 0 (.slice b 0 c.nodes.length (some c.nodes.length)) H=_;rw[b5q,hz];rfl
theorem b5r(c:Cir)(mm:Mm)(h:wfM c mm):∃fo,FoOk c.nodes c.nodes.length 0 fo∧∀(d:Bool) (H:a03),a0o L.env d (sem L.env Mf) (.func (.func 135) [] []) [.agg (a1s c mm)] H=some (.islice (foR c fo) (some c.nodes.length),H,[]):=by obtain⟨r,⟨fo,h1,rfl⟩,h2⟩:=c0f c mm h;exact⟨fo,h1,λd H=>a08 (by kernel_rfl) (by kernel_rfl) rfl (a51 c mm) h2 rfl⟩
def d1w(c:Cir)(mm:Mm):Option AObj:=some (.row 4 [[sl c.nc (c.nodes.map Nd.enc),sl c.mc (c.names.map b1l),.islice [[.islice [[.int .i64 mm.a]] (some 1),.islice [[.int .i64 mm.d0],[.int .i64 mm.d1]] (some 2),.int .i64 mm.w]] (some 1),sl c.oc (c.outs.map a0z)]])
attribute [go_sem] d1w
def d9o(c:Cir)(mm:Mm)(fo:List (List (Nat×Nat)))(n:Nat)(F:Frm)(H:a03):Prop:=∃(out left ready:List Nat) (done:Nat),n=c.nodes.length-done∧
 F=[(1,.ptr 0 0 0),(5,.slice 1 0 c.nodes.length (some c.nodes.length)),(6,.slice 2 0 c.nodes.length (some c.nodes.length)),(7,grV 3 (ready.map a0z)),(10,.islice (foR c fo) (some c.nodes.length)),(11,.int .i64 done)]∧
 H=[d1w c mm,some (.row 1 (out.map a0z)),some (.row 1 (left.map a0z))]++grH 1 (ready.map a0z)∧Kahn c.nodes left ready done []∧out.length=c.nodes.length∧(∀v∈out,v≤300*done)∧Lev c.nodes out ready done []
def d9n(c:Cir)(mm:Mm)(fo:List (List (Nat×Nat)))(done x:Nat)(L:List (Nat×Nat))(n:Nat)(F:Frm)(H:a03):Prop:=∃(out left ready:List Nat) (q:Nat),n=L.length-q∧q≤L.length∧
 F=[(1,.ptr 0 0 0),(5,.slice 1 0 c.nodes.length (some c.nodes.length)),(6,.slice 2 0 c.nodes.length (some c.nodes.length)),(7,grV 3 (ready.map a0z)),(10,.islice (foR c fo) (some c.nodes.length)),(11,.int .i64 (done+1:Nat)),(12,.int .i64 x),(76,.islice (L.map a36) (some L.length)),(77,.int .i64 L.length),(78,.int .i64 q)]∧
 H=[d1w c mm,some (.row 1 (out.map a0z)),some (.row 1 (left.map a0z))]++grH 1 (ready.map a0z)∧Kahn c.nodes left ready done (L.take q)∧ready[done]?=some x∧out.length=c.nodes.length∧(∀v∈out,v≤300*done+q)∧Lev c.nodes out ready done (L.take q)
theorem c07(c:Cir)(mm:Mm)(h:wfM c mm):∃r:AV×a03,(∃lv:List Nat,lv.length=c.nodes.length∧(∀v∈lv,v≤100000)∧c3t c.nodes lv∧r=(.tuple [.islice (lv.map a0z) (some c.nodes.length),.int .i64 0],[]))∧sem L.env Mf 84 [.agg (a1s c mm)] []=some r:=by
 have hn:=h.len;obtain⟨fo,hfo,hfc⟩:=b5r c mm h;have hfc:=hfc false;have hsh:=λH=>b6k (d:=false) H c mm h;have hrm:c.nodes.length≤1000000000:=by omega
 have hko:a16 (d1w c mm)=[]:=by simp only[go_sem]
 simp only[a1s,a6s]at hfc hsh⊢
 (refine svE Tryz.f84 ?_;simp only[Tryz.f84,gS])
 (repeat first|simp only[ww]|(apply xa;simp+decide only[go_sem,hsh,hrm];rfl;kernel_rfl))
 refine a13 (σ:=Nat) kp84_0 (λi=>[(1,.ptr 0 0 0),(5,.slice 1 0 c.nodes.length (some c.nodes.length)),(6,.slice 2 0 c.nodes.length (some c.nodes.length)),(7,grV 3 ((a1h c.nodes i).map a0z)),(29,sl c.nc (c.nodes.map Nd.enc)),(30,.int .i64 c.nodes.length),(31,.int .i64 i)])
  (λi=>[d1w c mm,some (.row 1 ((List.replicate c.nodes.length 0).map a0z)),some (.row 1 ((a1d c.nodes i).map a0z))]++grH 1 ((a1h c.nodes i).map a0z)) (λi=>c.nodes.length-i) (λi=>i≤c.nodes.length) 0 ?_ (Nat.zero_le _) ?_
 ·rw[b0m,show a1h c.nodes 0=[]from rfl]
  (simp+decide only[go_sem,a01,a00,d6u,List.map_nil,a1z,a20,a18,a2p]<;>rfl)
 ·intro i hi;by_cases hlt:i<c.nodes.length
  ·obtain⟨x,hx⟩:∃x,c.nodes[i]?=some x:=⟨_,z9e hlt⟩
   have c1:(i:Int)<c.nodes.length:=by omega
   have hw:=wI1 (n:=i) (by omega);have k14:=h.kind x (List.mem_of_getElem? hx);have hcb:=λH=>a7u (d:=false) H x.kind (by omega);have hll:(a1d c.nodes i).length=c.nodes.length:=by simp[a1d]
   have hgl:(a1d c.nodes i)[i]?=some 0:=by rw[a2y hlt];simp
   have hrl:=b26 c.nodes i;have hrs:=a91 c.nodes i;have hset:=a77 hlt;have hgl2:(a1d c.nodes (i+1))[i]?=some (a6r c.nodes i):=by rw[a2y hlt];simp
   have hnd:a6r c.nodes i=if a10 x.kind=true then x.ins.length else 0:=by unfold a6r;rw[a1a hx,a4j hx]
   have hsetR:((a1d c.nodes i).map a0z).set i [AV.int .i64 (a6r c.nodes i)]=(a1d c.nodes (i+1)).map a0z:=by rw[←hset,List.map_set];rfl
   by_cases hcm:a10 x.kind=true
   ·rw[if_pos hcm]at hnd;rw[hnd]at hsetR hgl2 hrs;by_cases hz:x.ins.length=0
    ·rw[if_pos hz]at hrs;have hz':(x.ins.length:Int)=0:=by omega
     rw[hz]at hsetR hgl2;generalize a1h c.nodes i=l at hrl hrs;cases l with
     |nil=>
      (repeat first|simp only[ww]|(apply xa;simp+decide only[go_sem,c1,hlt,hx,hw,hcb,hcm,hll,hgl,hsetR,hgl2,hz,List.map_nil,a1z,a20];rfl;kernel_rfl))
      refine a1k (i+1) ?_ (by omega) (by omega);rw[hrs]
      (simp+decide only[go_sem,a01,a00,List.map_nil,List.nil_append,List.map_cons,a0t,a0u,List.length_nil,a18,a2p]<;>rfl)
     |cons a r=>
      simp only[List.length_cons]at hrl;have hrm2:r.length+1+1≤1000000000:=by omega
      (repeat first|simp only[ww]|(apply xa;simp+decide only[go_sem,c1,hlt,hx,hw,hcb,hcm,hll,hgl,hsetR,hgl2,hz,List.map_cons,a0t,a0u,hrm2,List.length_cons];rfl;kernel_rfl))
      refine a1k (i+1) ?_ (by omega) (by omega);rw[hrs]
      (simp+decide only[go_sem,a01,a00,List.cons_append,List.map_cons,a0t,a0u,a18,a2p,List.length_cons]<;>rfl)
    ·rw[if_neg hz]at hrs;have hz':¬(x.ins.length:Int)=0:=by omega
     generalize a1h c.nodes i=l at hrl hrs;cases l with
     |nil=>
      (repeat first|simp only[ww]|(apply xa;simp+decide only[go_sem,c1,hlt,hx,hw,hcb,hcm,hll,hgl,hsetR,hgl2,hz',List.map_nil,a1z,a20];rfl;kernel_rfl))
      refine a1k (i+1) ?_ (by omega) (by omega);rw[hrs]
      (simp+decide only[go_sem,a01,a00,List.map_nil,a1z,a20,a18,a2p]<;>rfl)
     |cons a r=>
      (repeat first|simp only[ww]|(apply xa;simp+decide only[go_sem,c1,hlt,hx,hw,hcb,hcm,hll,hgl,hsetR,hgl2,hz',List.map_cons,a0t,a0u];rfl;kernel_rfl))
      refine a1k (i+1) ?_ (by omega) (by omega);rw[hrs]
      (simp+decide only[go_sem,a01,a00,List.map_cons,a0t,a0u,a18,a2p]<;>rfl)
   ·have hcm:a10 x.kind=false:=by simpa using hcm
    rw[hcm]at hnd;have hnd:a6r c.nodes i=0:=hnd;rw[hnd,if_pos rfl]at hrs;have hsame:=b0n hlt hnd
    ·
     generalize a1h c.nodes i=l at hrl hrs;cases l with
     |nil=>
      (repeat first|simp only[ww]|(apply xa;simp+decide only[go_sem,c1,hlt,hx,hw,hcb,hcm,hll,hgl,List.map_nil,a1z,a20];rfl;kernel_rfl))
      refine a1k (i+1) ?_ (by omega) (by omega);rw[hrs,←hsame]
      (simp+decide only[go_sem,a01,a00,List.map_nil,List.nil_append,List.map_cons,a0t,a0u,List.length_nil,a18,a2p]<;>rfl)
     |cons a r=>
      simp only[List.length_cons]at hrl;have hrm2:r.length+1+1≤1000000000:=by omega
      (repeat first|simp only[ww]|(apply xa;simp+decide only[go_sem,c1,hlt,hx,hw,hcb,hcm,hll,hgl,List.map_cons,a0t,a0u,hrm2,List.length_cons];rfl;kernel_rfl))
      refine a1k (i+1) ?_ (by omega) (by omega);rw[hrs,←hsame]
      (simp+decide only[go_sem,a01,a00,List.cons_append,List.map_cons,a0t,a0u,a18,a2p,List.length_cons]<;>rfl)
  ·obtain rfl:i=c.nodes.length:=by omega
   have c1:¬(c.nodes.length:Int)<c.nodes.length:=by omega
   have hK:=Kahn.start c.nodes;generalize a1h c.nodes c.nodes.length=ready at hK;generalize a1d c.nodes c.nodes.length=left at hK
   (repeat first|simp only[ww]|(apply xa;simp+decide only[go_sem,c1,hfc];rfl;kernel_rfl))
   refine a9v kp84_2 (d9o c mm fo) (c.nodes.length-0) ?_ ?_
   ·refine⟨_,_,?_,List.replicate c.nodes.length 0,left,ready,0,rfl,rfl,rfl,hK,by simp,by simp,Lev.start _ _ _⟩;cases ready with
    |nil=>(simp+decide only[go_sem,a01,a00,List.map_nil,a1z,a20,a18,a2p]<;>rfl)
    |cons a r=>(simp+decide only[go_sem,a01,a00,List.map_cons,a0t,a0u,a18,a2p]<;>rfl)
   ·rintro n F H ⟨out,left,ready,done,rfl,rfl,rfl,hK,hol,hob,hV⟩
    have hne:ready≠[]:=by
     rintro rfl
     have hd0:done=0:=by have:=hK.dle;simpa using this
     subst hd0;have h1:c.nodes.length≤0:=hK.all h.acyc;have h2:=h.pos;omega
    have hbd:=hK.bound;have hdl:=hK.dle;have hneE:ready.map a0z≠[]:=by simpa using hne
    rw[a3u 3 hneE,a3v 1 hneE,List.length_map];have hwd:=wI1 (n:=done) (by omega);have hll:=hK.ll;by_cases hlt:done<ready.length
    ·obtain⟨x,hx⟩:∃x,ready[done]?=some x:=⟨_,z9e hlt⟩
     have hxn:=hK.rn x (List.mem_of_getElem? hx);have c1:(done:Int)<ready.length:=by omega
     obtain⟨L,hL⟩:∃L,fo[x]?=some L:=⟨_,z9e (by rw[hfo.len];exact hxn)⟩
     have hLn:=hfo.node hL (Nat.le_refl _);have hLt:=hfo.totalM hL hn (λy hy=>h.insl hy);have hLc:∀a,a<c.nodes.length→cnt L a=(a3h c.nodes a).count x:=λa ha=>by rw[hfo.num x L hL a,if_pos ha]
     have hg:=c2q hL hxn;cases hLL:L with
     |nil=>
      subst hLL;simp only[List.map_nil,slF]at hg
      (repeat first|simp only[ww]|(apply xa;simp+decide only[go_sem,c1,hlt,hx,hwd,hg];rfl;kernel_rfl))
      refine a54 (c.nodes.length-(done+1)) (by omega) ⟨_,_,?_,out,left,ready,done+1,rfl,rfl,rfl,hK.next hx hLc,hol,λv hv=>by have:=hob v hv;omega,hV.next hx hLc⟩;rw[a3u 3 hneE,a3v 1 hneE]
      (simp+decide only[go_sem,a01,a00,a18,a2p]<;>rfl)
     |cons l0 lr=>
      rw[hLL]at hg;simp only[List.map_cons,slF]at hg;rw[←List.map_cons,←hLL]at hg;have hLp:L.length≠0:=by rw[hLL];simp
      have hLi:¬(L.length:Int)=0:=by omega
      have hLl:(L.map a36).length=L.length:=List.length_map ..
      (repeat first|simp only[ww]|(apply xa;simp+decide only[go_sem,c1,hlt,hx,hwd,hg,hLi,hLl];rfl;kernel_rfl))
      refine a9v kp84_4 (d9n c mm fo done x L) (L.length-0) ?_ ?_
      ·refine⟨_,_,?_,out,left,ready,0,rfl,Nat.zero_le _,rfl,rfl,by rw[List.take_zero];exact hK,hx,hol,λv hv=>by have:=hob v hv;omega,by rw[List.take_zero];exact hV⟩;rw[a3u 3 hneE,a3v 1 hneE]
       (simp+decide only[go_sem,a01,a00,a18,a2p]<;>rfl)<;>rfl
      ·clear hK hbd hdl hneE hll hob hol hx hlt c1 hne hV
       rintro n F H ⟨out,left,ready,q,rfl,hq,rfl,rfl,hK,hx,hol,hob,hV⟩
       have hbd:=hK.bound;have hdlt:=(List.getElem?_eq_some_iff.1 hx).1;have hne:ready≠[]:=by rintro rfl;simp at hdlt
       have hneE:ready.map a0z≠[]:=by simpa using hne
       rw[a3u 3 hneE,a3v 1 hneE,List.length_map];have hll:=hK.ll;have hwq:=wI1 (n:=q) (by omega);by_cases hql:q<L.length
       ·obtain⟨l,hl⟩:∃l,L[q]?=some l:=⟨_,z9e hql⟩
        obtain⟨a,p⟩:=l;have han:a<c.nodes.length:=hLn (a,p) (List.mem_of_getElem? hl);obtain⟨y,hy⟩:∃y,c.nodes[a]?=some y:=⟨_,z9e han⟩
        have c2:(q:Int)<L.length:=by omega
        have k14:=h.kind y (List.mem_of_getElem? hy);have hcb:=λH=>a7u (d:=false) H y.kind (by omega);have ht:=a14 hl;have hlR:(L.map a36)[q]?=some [.int .i64 a,.int .i64 p]:=by rw[List.getElem?_map,hl];rfl
        by_cases hcm:a10 y.kind=true
        ·have hkc:a10 (a0p c.nodes a)=true:=by rw[a1a hy];exact hcm
         have hcn:Pc.cnt (L.take q++[(a,p)]) a≤b2c c.nodes ready done a:=by refine Nat.le_trans ?_ (c1r hK.nd hx);rw[←hLc a han,←ht];unfold Pc.cnt;exact List.Sublist.count_le _ ((List.take_sublist _ _).map _)
         have hps:=hK.pos han hkc hcn;have hna:a∉ready:=λhm=>by have:=(hK.zero a han).1 hm;omega
         have hdc:=hK.dec han hkc hcn;rw[←ht]at hdc;obtain⟨va,hva⟩:∃v,out[a]?=some v:=⟨_,z9e (by omega)⟩
         obtain⟨vx,hvx⟩:∃v,out[x]?=some v:=⟨_,z9e (by omega)⟩
         obtain⟨w,hw⟩:∃v,left[a]?=some v:=⟨_,z9e (by omega)⟩
         have hwD:left.getD a 0=w:=by rw[List.getD,hw];rfl
         rw[hwD]at hps hdc;have bx:=hob vx (List.mem_of_getElem? hvx);have ba:=hob va (List.mem_of_getElem? hva);have hw1:=wI1 (n:=vx) (by omega);have hw2:IntKind.i64.wrap ((w:Int)-1)=((w-1:Nat):Int):=by
          have hwl:w≤100000:=by have h1:=hK.eq a han hkc;rw[hwD]at h1;have h2:b2c c.nodes ready done a≤(a3h c.nodes a).length:=List.length_filter_le _ _;rw[a4j hy]at h2;have h3:=h.insl (List.mem_of_getElem? hy);omega
          rw[w64 (by omega) (by omega)];omega
         have hmx:c40 (.int .i64 va) [.int .i64 ((vx+1:Nat):Int)]=some (.int .i64 ((max va (vx+1):Nat):Int)):=b9a _ _;have hsO:(out.map a0z).set a [AV.int .i64 ((max va (vx+1):Nat):Int)]=(out.set a (max va (vx+1))).map a0z:=by rw[List.map_set];rfl
         have hsL:(left.map a0z).set a [AV.int .i64 ((w-1:Nat):Int)]=(left.set a (w-1)).map a0z:=by rw[List.map_set];rfl
         have hgw:(left.set a (w-1))[a]?=some (w-1):=by rw[List.getElem?_set];simp;omega
         have hlo:(left.set a (w-1)).length=c.nodes.length:=by rw[List.length_set];exact hll
         have hoO:(out.set a (max va (vx+1))).length=c.nodes.length:=by rw[List.length_set];exact hol
         have hob2:∀v∈out.set a (max va (vx+1)),v≤300*done+(q+1):=by
          intro v hv;rcases List.mem_or_eq_of_mem_set hv with hv|rfl
          ·have:=hob v hv;omega
          ·omega
         have hdn:done<c.nodes.length:=by omega
         have han':a<left.length:=by omega
         have hxl:x<out.length:=by omega
         by_cases hz:w-1=0
         ·rw[if_pos hz]at hdc;have hz':decide (((w-1:Nat):Int)=0)=true:=decide_eq_true (by omega);have hrm2:ready.length+1≤1000000000:=by omega
          have hx':(ready++[a])[done]?=some x:=by rw[List.getElem?_append_left hdlt];exact hx
          (repeat first|simp only[ww]|(apply xa;simp+decide only[go_sem,c2,hql,hlR,hy,hcb,hcm,hwq,han,hva,hvx,hw,hol,hll,hxn,hw1,hw2,hmx,hsO,hsL,hgw,hlo,hoO,hz',hrm2];rfl;kernel_rfl))
          refine a54 (L.length-(q+1)) (by omega) ⟨_,_,?_,out.set a (max va (vx+1)),left.set a (w-1),ready++[a],q+1,rfl,hql,rfl,rfl,hdc,hx',hoO,hob2,by rw[ht];exact hV.dec hx hna hva hvx (.inr rfl)⟩
          (simp+decide only[go_sem,a01,a00,b3u,b8n,a18,a2p]<;>rfl)<;>rfl
         ·rw[if_neg hz]at hdc;have hz':¬((w-1:Nat):Int)=0:=by omega
          (repeat first|simp only[ww]|(apply xa;simp+decide only[go_sem,c2,hql,hlR,hy,hcb,hcm,hwq,han,hva,hvx,hw,hol,hll,hxn,hw1,hw2,hmx,hsO,hsL,hgw,hlo,hoO,hz'];rfl;kernel_rfl))
          refine a54 (L.length-(q+1)) (by omega) ⟨_,_,?_,out.set a (max va (vx+1)),left.set a (w-1),ready,q+1,rfl,hql,rfl,rfl,hdc,hx,hoO,hob2,by rw[ht];exact hV.dec hx hna hva hvx (.inl rfl)⟩;rw[a3u 3 hneE,a3v 1 hneE]
          (simp+decide only[go_sem,a01,a00,a18,a2p]<;>rfl)<;>rfl
        ·have hcm:a10 y.kind=false:=by simpa using hcm
         (repeat first|simp only[ww]|(apply xa;simp+decide only[go_sem,c2,hql,hlR,hy,hcb,hcm,hwq,han];rfl;kernel_rfl))
         refine a54 (L.length-(q+1)) (by omega) ⟨_,_,?_,out,left,ready,q+1,rfl,hql,rfl,rfl,by rw[ht];exact hK.skip (by rw[a1a hy];exact hcm),hx,hol,λv hv=>by have:=hob v hv;omega,by rw[ht];exact hV.skip (by rw[a1a hy];exact hcm)⟩;rw[a3u 3 hneE,a3v 1 hneE]
         (simp+decide only[go_sem,a01,a00,a18,a2p]<;>rfl)<;>rfl
       ·obtain rfl:q=L.length:=by omega
        have c2:¬(L.length:Int)<L.length:=by omega
        rw[List.take_length]at hK hV
        (repeat first|simp only[ww]|(apply xa;simp+decide only[go_sem,c2];rfl;kernel_rfl))
        refine a54 (c.nodes.length-(done+1)) (by omega) ⟨_,_,?_,out,left,ready,done+1,rfl,rfl,rfl,hK.next hx hLc,hol,λv hv=>by have:=hob v hv;omega,hV.next hx hLc⟩;rw[a3u 3 hneE,a3v 1 hneE]
        (simp+decide only[go_sem,a01,a00,a18,a2p]<;>rfl)<;>rfl
    ·obtain rfl:done=ready.length:=by omega
     have c1:¬(ready.length:Int)<ready.length:=by omega
     have hall:=hK.all h.acyc;have c2:¬(ready.length:Int)<c.nodes.length:=by omega
     (repeat first|simp only[ww]|(apply xa;simp+decide only[go_sem,c1,c2];rfl;kernel_rfl))
     refine c8h (vs:=[.slice 1 0 c.nodes.length (some c.nodes.length),.int .i64 0]) (r:=(_,[])) (by simp+decide only[go_sem]) ?_ ⟨out,hol,λv hv=>by have:=hob v hv;omega,hV.all hK hall,rfl⟩;show a42 false 0 (.tuple [.slice 1 0 c.nodes.length (some c.nodes.length),.int .i64 0]) _=_;rw[←hol];simp+decide only[go_sem,c8f]
theorem b59(c:Cir)(mm:Mm)(h:wfM c mm):∃lv:List Nat,lv.length=c.nodes.length∧(∀v∈lv,v≤100000)∧c3t c.nodes lv∧∀(d:Bool) (H:a03),a0o L.env d (sem L.env Mf) (.func (.func 84) [] []) [.agg (a1s c mm)] H=some (.tuple [.islice (lv.map a0z) (some c.nodes.length),.int .i64 0],H,[]):=by obtain⟨r,⟨lv,h1,h2,hR,rfl⟩,h3⟩:=c07 c mm h;exact⟨lv,h1,h2,hR,λd H=>a08 (by kernel_rfl) (by kernel_rfl) rfl (a51 c mm) h3 rfl⟩
theorem c00(c:Cir)(mm:Mm)(h:wfM c mm):sem L.env Mf 34 [.agg (a1s c mm)] []=some (.int .i64 0,[]):=by
 obtain⟨lv,_,_,_,hc⟩:=b59 c mm h;have hc:=hc false;simp only[a1s,a6s]at hc⊢
 (refine sv Tryz.f34 ?_;simp only[Tryz.f34,gS])
 (repeat first|simp only[ww]|(apply xa;simp+decide only[go_sem,hc];rfl;kernel_rfl))
 (apply fqb;simp+decide only[go_sem]<;>rfl)
theorem b53{d:Bool}(H:a03)(c:Cir)(mm:Mm)(h:wfM c mm):a0o L.env d (sem L.env Mf) (.func (.func 34) [] []) [.agg (a1s c mm)] H=some (.int .i64 0,H,[]):=a08 (by kernel_rfl) (by kernel_rfl) rfl (a51 c mm) (c00 c mm h) rfl
end Go.UInst
