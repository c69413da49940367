/- Part of a proof. No condition. -/
import Derived.Test.YtmiegcjnimlbmaaGreatDoorUGa
import Derived.Test.YtmiegcjnimlbmaaGreatDoorPcB
import Derived.Test.YtmiegcjnimlbmaaGreatDoorAxD
set_option linter.unusedSimpArgs false
set_option linter.unusedVariables false
namespace Go.UInst
open Go.Proofs Go.Ax Go.Pc
set_option maxRecDepth 100000
theorem d4f(k:Nat)(hk:k<16):sem L.env Mf 106 [.int .u8 k] []=some (.tuple [.int .i64 (a23 k:Nat),.int .i64 (a24 k:Nat)],[]):=by
 have w:=wI (n:=k) (by omega);have c:¬(16:Int)≤k:=by omega
 have h:k=0∨k=1∨k=2∨k=3∨k=4∨k=5∨k=6∨k=7∨k=8∨k=9∨k=10∨k=11∨k=12∨k=13∨k=14∨k=15:=by omega
 rcases h with rfl|rfl|rfl|rfl|rfl|rfl|rfl|rfl|rfl|rfl|rfl|rfl|rfl|rfl|rfl|rfl
 all_goals
  (refine sv Tryz.f106 ?_;simp only[Tryz.f106,gS])
  (repeat first|simp only[ww]|(apply xa;simp+decide only[go_sem,w,c];rfl;kernel_rfl))
  (apply fqb;simp+decide only[go_sem]<;>rfl)
theorem b6g{d:Bool}(H:a02)(k:Nat)(hk:k<16):a0a L.env d (sem L.env Mf) (.func (.func 106) [] []) [.int .u8 k] H=some (.tuple [.int .i64 (a23 k:Nat),.int .i64 (a24 k:Nat)],H,[]):=a04 (by kernel_rfl) (by kernel_rfl) rfl rfl (d4f k hk) rfl
theorem d9k(k:Nat)(hk:k<256):sem L.env Mf 61 [.int .u8 k] []=some (.bool (a1p k),[]):=by
 by_cases h1:1≤k
 ·have c1:(1:Int)≤k:=by omega
  by_cases h2:k≤13
  ·have c2:(k:Int)≤13:=by omega
   rw[show a1p k=true by simp[a1p,h1,h2]]
   (refine sv Tryz.f61 ?_;simp only[Tryz.f61,gS])
   (repeat first|simp only[ww]|(apply xa;simp+decide only[go_sem,c1,c2];rfl;kernel_rfl))
   (apply fqb;simp+decide only[go_sem]<;>rfl)
  ·have c2:¬(k:Int)≤13:=by omega
   rw[show a1p k=false by simp[a1p,h2]]
   (refine sv Tryz.f61 ?_;simp only[Tryz.f61,gS])
   (repeat first|simp only[ww]|(apply xa;simp+decide only[go_sem,c1,c2];rfl;kernel_rfl))
   (apply fqb;simp+decide only[go_sem]<;>rfl)
 ·have c1:¬(1:Int)≤k:=by omega
  rw[show a1p k=false by simp[a1p,h1]]
  (refine sv Tryz.f61 ?_;simp only[Tryz.f61,gS])
  (repeat first|simp only[ww]|(apply xa;simp+decide only[go_sem,c1];rfl;kernel_rfl))
  (apply fqb;simp+decide only[go_sem]<;>rfl)
theorem d8w(k v:Nat):sem L.env Mf 136 [.slice 0 0 1 (some 1),.int .u8 v] [some (.row 1 [[.int .u8 k]])]=some (.int .i64 (if v=k then 0 else -1),[some (.row 1 [[.int .u8 k]])]):=by
 (refine sv Tryz.f136 ?_;simp only[Tryz.f136,gS])
 (repeat first|simp only[ww]|(apply xa;simp+decide only[go_sem];rfl;kernel_rfl))
 refine a0p (σ:=Nat) kp136_0 (λi=>[(0,.slice 0 0 1 (some 1)),(1,.int .u8 v),(7,.int .i64 1),(8,.int .i64 i)])
  (λ_=>[some (.row 1 [[.int .u8 k]])]) (λi=>1-i) (λi=>i≤1∧(i=1→v≠k)) 0 ?_ (by simp) ?_
 ·(simp+decide only[go_sem,a03,a00]<;>rfl)
 ·rintro i ⟨hi,hne⟩
  have hh:i=0∨i=1:=by omega
  rcases hh with rfl|rfl
  ·by_cases h:v=k
   ·subst h
    (repeat first|simp only[ww]|(apply xa;simp+decide only[go_sem,if_pos];rfl;kernel_rfl))
    (apply fqb;simp+decide only[go_sem,if_pos]<;>rfl)
   ·have c:¬(v:Int)=k:=by omega
    (repeat first|simp only[ww]|(apply xa;simp+decide only[go_sem,c];rfl;kernel_rfl))
    refine a27 1 ?_ (by omega) (by simp[h])
    (simp+decide only[go_sem,a03,a00]<;>rfl)
  ·have h:=hne rfl;have c:¬(v:Int)=k:=by omega
   rw[if_neg h]
   (repeat first|simp only[ww]|(apply xa;simp+decide only[go_sem,c];rfl;kernel_rfl))
   (apply fqb;simp+decide only[go_sem]<;>rfl)
theorem d4p(k v:Nat):sem L.env Mf 85 [.slice 0 0 1 (some 1),.int .u8 v] [some (.row 1 [[.int .u8 k]])]=some (.bool (decide (v=k)),[some (.row 1 [[.int .u8 k]])]):=by
 have hc:a0a L.env false (sem L.env Mf) (.func (.func 136) [] []) [.slice 0 0 1 (some 1),.int .u8 v] [some (.row 1 [[.int .u8 k]])]=some (.int .i64 (if v=k then 0 else -1),[some (.row 1 [[.int .u8 k]])],[0]):=a30 (by kernel_rfl) (by kernel_rfl) rfl rfl rfl (FlatO.row (FlatR.cons rfl FlatR.nil)) rfl rfl (d8w k v) rfl;by_cases h:v=k
 ·rw[if_pos h]at hc
  (refine sv Tryz.f85 ?_;simp only[Tryz.f85,gS])
  (repeat first|simp only[ww]|(apply xa;simp+decide only[go_sem,hc];rfl;kernel_rfl))
  (apply fqb;simp+decide only[go_sem,h]<;>rfl)
 ·rw[if_neg h]at hc
  (refine sv Tryz.f85 ?_;simp only[Tryz.f85,gS])
  (repeat first|simp only[ww]|(apply xa;simp+decide only[go_sem,hc];rfl;kernel_rfl))
  (apply fqb;simp+decide only[go_sem,h]<;>rfl)
theorem c67{d:Bool}(k v:Nat)(X:a02):a0a L.env d (sem L.env Mf) (.func (.func 85) [] []) [.slice 0 0 1 (some 1),.int .u8 v] (some (.row 1 [[.int .u8 k]])::X)=some (.bool (decide (v=k)),some (.row 1 [[.int .u8 k]])::X,[0]):=a30 (by kernel_rfl) (by kernel_rfl) rfl rfl rfl (FlatO.row (FlatR.cons rfl FlatR.nil)) rfl rfl (d4p k v) rfl
def a3g(nodes:List Nd)(k i:Nat):List Nat:=(List.range i).filter λj=>decide (a0x nodes j=k)
theorem b3l(nodes:List Nd)(k i:Nat):a3g nodes k (i+1)=if a0x nodes i=k then a3g nodes k i++[i]else a3g nodes k i:=by unfold a3g;rw[List.range_succ,List.filter_append];by_cases h:a0x nodes i=k<;>simp[h]
theorem b3m(nodes:List Nd)(k i:Nat):(a3g nodes k i).length≤i:=Nat.le_trans (List.length_filter_le _ _) (by simp)
def kinds(nodes:List Nd)(k:Nat):List Nat:=a3g nodes k nodes.length
def c9u(l:List Nat):AV:=sl (match l with|[]=>none|a::r=>some (some (r.length+1))) (l.map a0h)
theorem c3o:c9u [] = .nilslice:=by rfl
theorem c9t(a:Nat)(r:List Nat):c9u (a::r) = .islice ((a::r).map a0h) (some (r.length+1)):=by rfl
theorem a1e{nodes:List Nd}{i:Nat}{x:Nd}(h:nodes[i]?=some x):a0x nodes i=x.kind:=by simp[a0x,h]
theorem a2q(l:List Nat):(l.map a0h).flatMap a0e=[]:=a08 (FlatR.map λ_=>rfl)
theorem a48(π:Nat→Option Nat)(l:List Nat):(l.map a0h).map (λr=>r.map (ren π))=l.map a0h:=a06 π (FlatR.map λ_=>rfl)
theorem d4d(l:List Nat):FlatR (l.map a0h):=FlatR.map λ_=>rfl
theorem d93{m:Nat}{d:AV→Option AV}(l:List Nat):a9a m d (l.map a0h)=some (l.map a0h):=a17 m d (FlatR.map λ_=>rfl)
theorem d4u:sem L.env Mf 86 [.nilslice] []=some (.nilslice,[]):=by
 (refine sv Tryz.f86 ?_;simp only[Tryz.f86,gS])
 (repeat first|simp only[ww]|(apply xa;simp+decide only[go_sem];rfl;kernel_rfl))
 (apply fqb;simp+decide only[go_sem]<;>rfl)
theorem d9l(n:Nat)(rows:List (List AV))(hf:FlatR rows):sem L.env Mf 86 [.slice 0 0 n none] [some (.row 1 rows)]=some (.slice 0 0 n (some n),[some (.row 1 rows)]):=by
 have h1:=λπ=>a06 π hf
 (refine sv Tryz.f86 ?_;simp only[Tryz.f86,gS])
 (repeat first|simp only[ww]|(apply xa;simp+decide only[go_sem];rfl;kernel_rfl))
 (apply fqb;simp+decide only[go_sem,h1]<;>rfl)
theorem d0t{d:Bool}{H:a02}{b n:Nat}{rows:List (List AV)}(hf:FlatR rows)(hb:a01 H b=some (.row 1 rows)):a0a L.env d (sem L.env Mf) (.func (.func 86) [] []) [.slice b 0 n none] H=some (.slice b 0 n (some n),H,[b]):=by have h:=a40 (E:=L.env) (draw:=d) (call:=sem L.env Mf) (g:=86) (fs:=[]) (cs:=[]) (ar:=[.slice b 0 n none]) (H:=H) (b:=b) (by kernel_rfl) (by kernel_rfl) rfl hb (a0m hf) (FlatO.row hf) rfl (args':=[AV.slice 0 0 n none]) (by simp only[List.nil_append,List.append_nil,List.map_cons,List.map_nil,a1y]) (d9l n rows hf) (FlatO.row hf) (a4t b 0 _ n _);rw[a8g hb]at h;exact h
theorem e38(c:Cir)(k:Nat)(hl:c.nodes.length<1000000):sem L.env Mf 35 [.agg c.enc,.slice 0 0 1 (some 1)] [some (.row 1 [[.int .u8 k]])]=some (c9u (kinds c.nodes k),[some (.row 1 [[.int .u8 k]])]):=by
 have hck:=λv X=>c67 (d:=false) k v X
 (refine sv Tryz.f35 ?_;simp only[Tryz.f35,gS])
 (repeat first|simp only[ww]|(apply xa;simp+decide only[go_sem,Cir.enc];rfl;kernel_rfl))
 refine a0p (σ:=Nat) kp35_0 (λi=>[(1,.slice 0 0 1 (some 1)),(5,grV 1 ((a3g c.nodes k i).map a0h)),(9,sl c.nc (c.nodes.map Nd.enc)),(10,.int .i64 c.nodes.length),(11,.int .i64 i)])
  (λi=>some (.row 1 [[.int .u8 k]])::grH 1 ((a3g c.nodes k i).map a0h)) (λi=>c.nodes.length-i) (λi=>i≤c.nodes.length) 0 ?_ (Nat.zero_le _) ?_
 ·have e:a3g c.nodes k 0=[]:=rfl
  (simp+decide only[go_sem,a03,a00,e,List.map_nil,a0t,a0u]<;>rfl)
 ·intro i hi;by_cases hlt:i<c.nodes.length
  ·obtain⟨x,hx⟩:∃x,c.nodes[i]?=some x:=⟨_,z9e hlt⟩
   have c1:(i:Int)<c.nodes.length:=by omega
   have hw:=wI1 (n:=i) (by omega);have hs:=b3l c.nodes k i;rw[a1e hx]at hs;have hle:=b3m c.nodes k i;have hrm:(a3g c.nodes k i).length+1≤1000000000:=by omega
   by_cases hk:x.kind=k
   ·rw[if_pos hk]at hs;generalize a3g c.nodes k i=l at hs hle hrm;cases l with
    |nil=>
     (repeat first|simp only[ww]|(apply xa;simp+decide only[go_sem,c1,hlt,hx,hw,hck,hk,List.map_nil,a0t,a0u];rfl;kernel_rfl))
     refine a27 (i+1) ?_ (by omega) (by omega);rw[hs]
     (simp+decide only[go_sem,a03,a00,List.map_nil,List.nil_append,List.map_cons,a0b,a0c,List.length_nil]<;>rfl)
    |cons a r=>
     simp only[List.length_cons]at hrm
     (repeat first|simp only[ww]|(apply xa;simp+decide only[go_sem,c1,hlt,hx,hw,hck,hk,List.map_cons,a0b,a0c,hrm,List.length_cons];rfl;kernel_rfl))
     refine a27 (i+1) ?_ (by omega) (by omega);rw[hs]
     (simp+decide only[go_sem,a03,a00,List.cons_append,List.map_cons,a0b,a0c,a2q,a48,List.length_cons]<;>rfl)
   ·rw[if_neg hk]at hs;have hk':¬(x.kind:Int)=k:=by omega
    generalize a3g c.nodes k i=l at hs hle hrm;cases l with
    |nil=>
     (repeat first|simp only[ww]|(apply xa;simp+decide only[go_sem,c1,hlt,hx,hw,hck,hk,List.map_nil,a0t,a0u];rfl;kernel_rfl))
     refine a27 (i+1) ?_ (by omega) (by omega);rw[hs]
     (simp+decide only[go_sem,a03,a00,List.map_nil,a0t,a0u]<;>rfl)
    |cons a r=>
     (repeat first|simp only[ww]|(apply xa;simp+decide only[go_sem,c1,hlt,hx,hw,hck,hk,List.map_cons,a0b,a0c];rfl;kernel_rfl))
     refine a27 (i+1) ?_ (by omega) (by omega);rw[hs]
     (simp+decide only[go_sem,a03,a00,List.map_cons,a0b,a0c,a2q,a48]<;>rfl)
  ·obtain rfl:i=c.nodes.length:=by omega
   have c1:¬(c.nodes.length:Int)<c.nodes.length:=by omega
   unfold kinds;generalize a3g c.nodes k c.nodes.length=l;cases l with
   |nil=>
    have hcl:=λH=>a04 (E:=L.env) (draw:=false) (call:=sem L.env Mf) (g:=86) (fs:=[]) (cs:=[]) (ar:=[.nilslice]) (H:=H) (by kernel_rfl) (by kernel_rfl) rfl rfl d4u rfl
    (repeat first|simp only[ww]|(apply xa;simp+decide only[go_sem,c1,List.map_nil,a0t,a0u,hcl];rfl;kernel_rfl))
    (apply fqb;simp+decide only[go_sem,c3o]<;>rfl)
   |cons a r=>
    have hcl:=d0t (d:=false) (H:=[some (.row 1 [[.int .u8 k]]),some (.row 1 ((a::r).map a0h))]) (b:=1) (n:=r.length+1) (d4d _) rfl;simp only[List.map_cons,go_sem]at hcl
    (repeat first|simp only[ww]|(apply xa;simp+decide only[go_sem,c1,List.map_cons,a0b,a0c,List.length_map,hcl];rfl;kernel_rfl))
    (apply fqb;simp+decide only[go_sem,c9t,List.map_cons,d93,List.length_cons]<;>rfl)
theorem d7t(π:Nat→Option Nat)(c:Cir):ren π (.agg c.enc) = .agg c.enc:=a0d π _ (by simp only[a0s,Cir.enc,go_sem])
theorem b2w(l:List Nat):refs (c9u l)=[]:=a1b _ _
theorem b23{d:Bool}{H:a02}{b:Nat}(c:Cir){k:Nat}{n:Int}(hn:n=k)(hl:c.nodes.length<1000000)(hb:a01 H b=some (.row 1 [[.int .u8 n]])) :
 a0a L.env d (sem L.env Mf) (.func (.func 35) [] []) [.agg c.enc,.slice b 0 1 (some 1)] H=some (c9u (kinds c.nodes k),H,[b]):=by
 subst hn;exact a30 (E:=L.env) (draw:=d) (call:=sem L.env Mf) (g:=35) (fs:=[]) (cs:=[]) (ar:=[.agg c.enc,.slice b 0 1 (some 1)]) (H:=H) (b:=b) (by kernel_rfl) (by kernel_rfl) rfl hb rfl (FlatO.row (FlatR.cons rfl FlatR.nil)) (by simp only[List.nil_append,List.append_nil,a07,a0s,Cir.enc,go_sem]) (args':=[.agg c.enc,.slice 0 0 1 (some 1)]) (by simp only[List.nil_append,List.append_nil,List.map_cons,List.map_nil,a1y,d7t]) (e38 c k hl) (b2w _)
theorem a4f(l:List Nat):∃r,c9u l=sl r (l.map a0h):=⟨_,rfl⟩
theorem c9m(c:Cir)(hl:c.nodes.length<1000000):sem L.env Mf 13 [.agg c.enc] []=some (c9u (kinds c.nodes 0),[]):=by
 have hc:=λX=>b23 (d:=false) (H:=[X,some (.row 1 [[.int .u8 0]])]) (b:=1) c (k:=0) rfl hl rfl;obtain⟨r,hr⟩:=a4f (kinds c.nodes 0);rw[hr]at hc⊢;simp only[Cir.enc]at hc⊢
 (refine sv Tryz.f13 ?_;simp only[Tryz.f13,gS])
 (repeat first|simp only[ww]|(apply xa;simp+decide only[go_sem,hc];rfl;kernel_rfl))
 (apply fqb;simp+decide only[go_sem]<;>rfl)
theorem c7k(c:Cir)(hl:c.nodes.length<1000000):sem L.env Mf 57 [.agg c.enc] []=some (c9u (kinds c.nodes 14),[]):=by
 have hc:=λX=>b23 (d:=false) (H:=[X,some (.row 1 [[.int .u8 14]])]) (b:=1) c (k:=14) rfl hl rfl;obtain⟨r,hr⟩:=a4f (kinds c.nodes 14);rw[hr]at hc⊢;simp only[Cir.enc]at hc⊢
 (refine sv Tryz.f57 ?_;simp only[Tryz.f57,gS])
 (repeat first|simp only[ww]|(apply xa;simp+decide only[go_sem,hc];rfl;kernel_rfl))
 (apply fqb;simp+decide only[go_sem]<;>rfl)
theorem a3w{d:Bool}(H:a02)(c:Cir)(hl:c.nodes.length<1000000):a0a L.env d (sem L.env Mf) (.func (.func 13) [] []) [.agg c.enc] H=some (c9u (kinds c.nodes 0),H,[]):=a04 (by kernel_rfl) (by kernel_rfl) rfl (by simp only[a07,a0s,Cir.enc,go_sem]) (c9m c hl) (b2w _)
theorem a5n{d:Bool}(H:a02)(c:Cir)(hl:c.nodes.length<1000000):a0a L.env d (sem L.env Mf) (.func (.func 57) [] []) [.agg c.enc] H=some (c9u (kinds c.nodes 14),H,[]):=a04 (by kernel_rfl) (by kernel_rfl) rfl (by simp only[a07,a0s,Cir.enc,go_sem]) (c7k c hl) (b2w _)
def c3f(c:Cir):AV:=.func (.func 211) [] [.iptr c.enc]
theorem c83(c:Cir):refs (c3f c)=[]:=by rfl
theorem c58(c:Cir):sem L.env Mf 175 [.agg c.enc] []=some (c3f c,[]):=by
 unfold c3f;simp only[Cir.enc]
 (refine sv Tryz.f175 ?_;simp only[Tryz.f175,gS])
 (repeat first|simp only[ww]|(apply xa;simp+decide only[go_sem];rfl;kernel_rfl))
 (apply fqb;simp+decide only[go_sem]<;>rfl)
theorem a7w{d:Bool}(H:a02)(c:Cir):a0a L.env d (sem L.env Mf) (.func (.func 175) [] []) [.agg c.enc] H=some (c3f c,H,[]):=a04 (by kernel_rfl) (by kernel_rfl) rfl (by simp only[a07,a0s,Cir.enc,go_sem]) (c58 c) rfl
theorem d85(c:Cir)(m:Nat)(hm:m<c.nodes.length):sem L.env Mf 211 [.int .i64 m,.iptr c.enc] []=some (.bool false,[]):=by
 have c1:¬(m:Int)<0:=by omega
 have c2:¬(c.nodes.length:Int)≤m:=by omega
 simp only[Cir.enc]
 (refine sv Tryz.f211 ?_;simp only[Tryz.f211,gS])
 (repeat first|simp only[ww]|(apply xa;simp+decide only[go_sem,c1,c2];rfl;kernel_rfl))
 (apply fqb;simp+decide only[go_sem]<;>rfl)
theorem b9j{d:Bool}(H:a02)(c:Cir)(m:Nat)(hm:m<c.nodes.length):a0a L.env d (sem L.env Mf) (c3f c) [.int .i64 m] H=some (.bool false,H,[]):=a04 (by kernel_rfl) (by kernel_rfl) rfl (by simp only[a07,Cir.enc,go_sem]) (d85 c m hm) rfl
theorem c9r(r:Rep)(l:List Nat)(f:AV)(hf:refs f=[])(hl:l.length<1000000)(hc:∀m∈l,a0a L.env false (sem L.env Mf) f [.int .i64 m] []=some (.bool false,[],[])) :
 sem L.env Mf 210 [sl r (l.map a0h),f] []=some (.int .i64 (-1),[]):=by
 have hr:∀π,ren π f=f:=λπ=>a0d π f hf
 (refine sv Tryz.f210 ?_;simp only[Tryz.f210,gS])
 (repeat first|simp only[ww]|(apply xa;simp+decide only[go_sem];rfl;kernel_rfl))
 refine a0p (σ:=Nat) kp210_0 (λi=>[(0,sl r (l.map a0h)),(1,f),(7,.int .i64 l.length),(8,.int .i64 i)])
  (λ_=>[]) (λi=>l.length-i) (λi=>i≤l.length) 0 ?_ (Nat.zero_le _) ?_
 ·(simp+decide only[go_sem,a03,a00,hf,hr]<;>rfl)
 ·intro i hi;by_cases hlt:i<l.length
  ·obtain⟨x,hx⟩:∃x,l[i]?=some x:=⟨_,z9e hlt⟩
   have c1:(i:Int)<l.length:=by omega
   have hw:=wI1 (n:=i) (by omega);have hcx:=hc x (List.mem_of_getElem? hx)
   (repeat first|simp only[ww]|(apply xa;simp+decide only[go_sem,c1,hlt,hx,hw,hcx];rfl;kernel_rfl))
   refine a27 (i+1) ?_ (by omega) (by omega)
   (simp+decide only[go_sem,a03,a00,hf,hr]<;>rfl)
  ·obtain rfl:i=l.length:=by omega
   have c1:¬(l.length:Int)<l.length:=by omega
   (repeat first|simp only[ww]|(apply xa;simp+decide only[go_sem,c1];rfl;kernel_rfl))
   (apply fqb;simp+decide only[go_sem]<;>rfl)
theorem c68(r:Rep)(l:List Nat)(f:AV)(hf:refs f=[])(hl:l.length<1000000)(hc:∀m∈l,a0a L.env false (sem L.env Mf) f [.int .i64 m] []=some (.bool false,[],[])) :
 sem L.env Mf 174 [sl r (l.map a0h),f] []=some (.bool false,[]):=by
 have h:=λH=>a04 (E:=L.env) (draw:=false) (call:=sem L.env Mf) (g:=210) (fs:=[]) (cs:=[]) (ar:=[sl r (l.map a0h),f]) (H:=H) (by kernel_rfl) (by kernel_rfl) rfl (by simp only[List.nil_append,List.append_nil,a07,hf,go_sem]) (c9r r l f hf hl hc) rfl;have c1:¬(0:Int)≤ -1:=by omega
 (refine sv Tryz.f174 ?_;simp only[Tryz.f174,gS])
 (repeat first|simp only[ww]|(apply xa;simp+decide only[go_sem,h,c1];rfl;kernel_rfl))
 (apply fqb;simp+decide only[go_sem]<;>rfl)
theorem c09{d:Bool}(H:a02)(c:Cir)(r:Rep)(l:List Nat)(hl:l.length<1000000)(h:∀m∈l,m<c.nodes.length) :
 a0a L.env d (sem L.env Mf) (.func (.func 174) [] []) [sl r (l.map a0h),c3f c] H=some (.bool false,H,[]):=
 a04 (by kernel_rfl) (by kernel_rfl) rfl (by simp only[List.nil_append,List.append_nil,a07,c83,go_sem]) (c68 r l (c3f c) rfl hl (λm hm=>b9j [] c m (h m hm))) rfl
/- the drivers of a bus -/
theorem d2v(c:Cir)(m:Nat)(hm:m<c.nodes.length)(hk:a0x c.nodes m=12):sem L.env Mf 206 [.int .i64 m,.ptr 0 0 0] [some (.row 4 [c.enc])]=some (.bool false,[some (.row 4 [c.enc])]):=by
 obtain⟨x,hx⟩:∃x,c.nodes[m]?=some x:=⟨_,z9e hm⟩
 rw[a1e hx]at hk;simp only[Cir.enc]
 (refine sv Tryz.f206 ?_;simp only[Tryz.f206,gS])
 (repeat first|simp only[ww]|(apply xa;simp+decide only[go_sem,hx,hk,hm];rfl;kernel_rfl))
 (apply fqb;simp+decide only[go_sem]<;>rfl)
theorem a6r(c:Cir):FlatR [c.enc]:=FlatR.cons (by simp only[Cir.enc,go_sem]) FlatR.nil
theorem c59{d:Bool}(H:a02)(c:Cir)(b m:Nat)(hb:a01 H b=some (.row 4 [c.enc]))(hm:m<c.nodes.length)(hk:a0x c.nodes m=12):a0a L.env d (sem L.env Mf) (.func (.func 206) [] [.ptr b 0 0]) [.int .i64 m] H=some (.bool false,H,[b]):=a30 (fs:=[]) (cs:=[.ptr b 0 0]) (ar:=[.int .i64 m]) (by kernel_rfl) (by kernel_rfl) rfl hb (a0m (a6r c)) (FlatO.row (a6r c)) rfl (args':=[.int .i64 m,.ptr 0 0 0]) (by simp[ren,a7n]) (d2v c m hm hk) rfl
theorem c5p(r:Rep)(l:List Nat)(c:Cir)(hl:l.length<1000000)(hc:∀m∈l,m<c.nodes.length∧a0x c.nodes m=12) :
 sem L.env Mf 210 [sl r (l.map a0h),.func (.func 206) [] [.ptr 0 0 0]] [some (.row 4 [c.enc])]=some (.int .i64 (-1),[some (.row 4 [c.enc])]):=by
 have hfl:a0e c.enc=[]:=by simp only[Cir.enc,go_sem]
 have hrn:∀π,c.enc.map (ren π)=c.enc:=λπ=>a35 π hfl;have hcall:=λm h1 h2=>c59 (d:=false) [some (.row 4 [c.enc])] c 0 m rfl h1 h2;generalize he:c.enc=E at hfl hrn hcall
 (refine sv Tryz.f210 ?_;simp only[Tryz.f210,gS])
 (repeat first|simp only[ww]|(apply xa;simp+decide only[go_sem];rfl;kernel_rfl))
 refine a0p (σ:=Nat) kp210_0 (λi=>[(0,sl r (l.map a0h)),(1,.func (.func 206) [] [.ptr 0 0 0]),(7,.int .i64 l.length),(8,.int .i64 i)])
  (λ_=>[some (.row 4 [E])]) (λi=>l.length-i) (λi=>i≤l.length) 0 ?_ (Nat.zero_le _) ?_
 ·(simp+decide only[go_sem,a03,a00,hfl,hrn]<;>rfl)
 ·intro i hi;by_cases hlt:i<l.length
  ·obtain⟨x,hx⟩:∃x,l[i]?=some x:=⟨_,z9e hlt⟩
   have c1:(i:Int)<l.length:=by omega
   have hw:=wI1 (n:=i) (by omega);have hcx:=hcall x (hc x (List.mem_of_getElem? hx)).1 (hc x (List.mem_of_getElem? hx)).2
   (repeat first|simp only[ww]|(apply xa;simp+decide only[go_sem,c1,hlt,hx,hw,hcx];rfl;kernel_rfl))
   refine a27 (i+1) ?_ (by omega) (by omega)
   (simp+decide only[go_sem,a03,a00,hfl,hrn]<;>rfl)
  ·obtain rfl:i=l.length:=by omega
   have c1:¬(l.length:Int)<l.length:=by omega
   (repeat first|simp only[ww]|(apply xa;simp+decide only[go_sem,c1];rfl;kernel_rfl))
   (apply fqb;simp+decide only[go_sem,hrn]<;>rfl)
theorem c0a(r:Rep)(l:List Nat)(c:Cir)(hl:l.length<1000000)(hc:∀m∈l,m<c.nodes.length∧a0x c.nodes m=12) :
 sem L.env Mf 174 [sl r (l.map a0h),.func (.func 206) [] [.ptr 0 0 0]] [some (.row 4 [c.enc])]=some (.bool false,[some (.row 4 [c.enc])]):=by
 have h:=a30 (E:=L.env) (draw:=false) (call:=sem L.env Mf) (g:=210) (fs:=[]) (cs:=[]) (ar:=[sl r (l.map a0h),.func (.func 206) [] [.ptr 0 0 0]]) (H:=[some (.row 4 [c.enc])]) (b:=0) (by kernel_rfl) (by kernel_rfl) rfl rfl (a0m (a6r c)) (FlatO.row (a6r c)) (by simp only[List.nil_append,List.append_nil,a07,go_sem]) (by simp only[List.nil_append,List.append_nil,List.map_cons,List.map_nil,b9b];simp[ren,b8u,a7n]) (c5p r l c hl hc) rfl;have c1:¬(0:Int)≤ -1:=by omega
 have hfl:a0e c.enc=[]:=by simp only[Cir.enc,go_sem]
 have hrn:∀π,c.enc.map (ren π)=c.enc:=λπ=>a35 π hfl;generalize he:c.enc=E at hfl hrn h
 (refine sv Tryz.f174 ?_;simp only[Tryz.f174,gS])
 (repeat first|simp only[ww]|(apply xa;simp+decide only[go_sem,h,c1];rfl;kernel_rfl))
 (apply fqb;simp+decide only[go_sem,hrn]<;>rfl)
theorem c2h{d:Bool}{H:a02}{b:Nat}(c:Cir)(r:Rep)(l:List Nat)(hl:l.length<1000000)(hc:∀m∈l,m<c.nodes.length∧a0x c.nodes m=12)(hb:a01 H b=some (.row 4 [c.enc])) :
 a0a L.env d (sem L.env Mf) (.func (.func 174) [] []) [sl r (l.map a0h),.func (.func 206) [] [.ptr b 0 0]] H=some (.bool false,H,[b]):=
 a30 (fs:=[]) (cs:=[]) (ar:=[sl r (l.map a0h),.func (.func 206) [] [.ptr b 0 0]]) (by kernel_rfl) (by kernel_rfl) rfl hb (a0m (a6r c)) (FlatO.row (a6r c)) (by simp only[List.nil_append,List.append_nil,a07,go_sem]) (by simp only[List.nil_append,List.append_nil,List.map_cons,List.map_nil,b9b];simp[ren,b8u,a7n]) (c0a r l c hl hc) rfl
theorem e4g(c:Cir)(x:Nd)(hm:x.mem=0∧x.bit=0)(hk:x.kind≤14):sem L.env Mf 207 [.agg c.enc,.agg x.enc] []=some (.bool true,[]):=by
 have c1:¬(x.kind:Int)=15:=by omega
 obtain⟨m1,m2⟩:=hm;simp only[Cir.enc,Nd.enc,m1,m2]
 (refine sv Tryz.f207 ?_;simp only[Tryz.f207,gS])
 (repeat first|simp only[ww]|(apply xa;simp+decide only[go_sem,c1];rfl;kernel_rfl))
 (apply fqb;simp+decide only[go_sem]<;>rfl)
theorem d56{d:Bool}(H:a02)(c:Cir)(x:Nd)(hm:x.mem=0∧x.bit=0)(hk:x.kind≤14):a0a L.env d (sem L.env Mf) (.func (.func 207) [] []) [.agg c.enc,.agg x.enc] H=some (.bool true,H,[]):=a04 (by kernel_rfl) (by kernel_rfl) rfl (by simp only[a07,a0s,Cir.enc,go_sem]) (e4g c x hm hk) rfl
theorem d8b(c:Cir)(h:c.wf)(x:Nd)(hx:x∈c.nodes):sem L.env Mf 171 [.agg c.enc,.agg x.enc] []=some (.int .i64 0,[]):=by
 have k14:=h.kind x hx;have hlo:=h.lo x hx;have hhi:=h.hi x hx;have hlen:x.ins.length<1000000:=by
  have:a24 x.kind≤16:=by
   have hk:x.kind=0∨x.kind=1∨x.kind=2∨x.kind=3∨x.kind=4∨x.kind=5∨x.kind=6∨x.kind=7∨x.kind=8∨x.kind=9∨x.kind=10∨x.kind=11∨x.kind=12∨x.kind=13∨x.kind=14:=by omega
   rcases hk with e|e|e|e|e|e|e|e|e|e|e|e|e|e|e<;>rw[e]<;>decide
  omega
 have hf:=λH=>b6g (d:=false) H x.kind (by omega);have ho:=λH=>a7w (d:=true) H c;have hc:=λH=>c09 (d:=true) H c x.c x.ins hlen (h.ins x hx);have hb:=λH=>d56 (d:=false) H c x (h.mem x hx) k14;have c1:¬(15:Int)<x.kind:=by omega
 have c2:¬(x.ins.length:Int)<a23 x.kind:=by omega
 have c3:¬(a24 x.kind:Int)<x.ins.length:=by omega
 have hfl:a0e c.enc=[]:=by simp only[Cir.enc,go_sem]
 by_cases hk:x.kind=13
 ·have hoth:=λ(X:Option AObj)=>c2h (d:=false) (H:=[some (.row 4 [c.enc]),X]) (b:=0) c x.c x.ins hlen (λm hm=>⟨h.ins x hx m hm,h.bus x hx hk m hm⟩) rfl;have ck:decide ((x.kind:Int)=13)=true:=decide_eq_true (by omega);simp only[Cir.enc,Nd.enc]at ho hc hb hoth⊢
  (refine sv Tryz.f171 ?_;simp only[Tryz.f171,gS])
  (repeat first|simp only[ww]|(apply xa;simp+decide only[go_sem,hf,c1,c2,c3,ho,hc,hb,hoth,ck];rfl;kernel_rfl))
  (apply fqb;simp+decide only[go_sem]<;>rfl)
 ·have ck:¬(x.kind:Int)=13:=by omega
  simp only[Cir.enc,Nd.enc]at ho hc hb⊢
  (refine sv Tryz.f171 ?_;simp only[Tryz.f171,gS])
  (repeat first|simp only[ww]|(apply xa;simp+decide only[go_sem,hf,c1,c2,c3,ho,hc,hb,ck];rfl;kernel_rfl))
  (apply fqb;simp+decide only[go_sem]<;>rfl)
theorem c8g{d:Bool}(H:a02)(c:Cir)(h:c.wf)(x:Nd)(hx:x∈c.nodes):a0a L.env d (sem L.env Mf) (.func (.func 171) [] []) [.agg c.enc,.agg x.enc] H=some (.int .i64 0,H,[]):=a04 (by kernel_rfl) (by kernel_rfl) rfl (by simp only[a07,a0s,Cir.enc,go_sem]) (d8b c h x hx) rfl
theorem c9e(i:Nat)(hi:i<14):sem L.env Mf 208 [.str (a2j i)] []=some (.bool true,[]):=by
 have h:i=0∨i=1∨i=2∨i=3∨i=4∨i=5∨i=6∨i=7∨i=8∨i=9∨i=10∨i=11∨i=12∨i=13:=by omega
 rcases h with rfl|rfl|rfl|rfl|rfl|rfl|rfl|rfl|rfl|rfl|rfl|rfl|rfl|rfl
 ·exact d3v
 ·exact d3u
 ·exact d3t
 ·exact d3s
 ·exact d3r
 ·exact d3q
 ·exact d3p
 ·exact d3o
 ·exact d3n
 ·exact d3m
 ·exact c9i
 ·exact c9h
 ·exact c9g
 ·exact c9f
theorem c24{d:Bool}(H:a02)(i:Nat)(hi:i<14):a0a L.env d (sem L.env Mf) (.func (.func 208) [] []) [.str (a2j i)] H=some (.bool true,H,[]):=a04 (by kernel_rfl) (by kernel_rfl) rfl rfl (c9e i hi) rfl
def a7x(i:Nat):List AV:=(List.range i).map λj=>.str (a2j j)
theorem c1v(i:Nat):a7x (i+1)=a7x i++[.str (a2j i)]:=by unfold a7x;rw[List.range_succ,List.map_append];rfl
theorem eqS(a b:List UInt8):aeq L.env 6 9 (.str a) (.str b)=some (a==b):=by kernel_rfl
theorem b9l{i j:Nat}(hi:i<14)(hj:j<14)(h:a2j i=a2j j):i=j:=by unfold a2j at h;simp only[List.cons.injEq,and_true,true_and]at h;have h1:=congrArg UInt8.toNat h.1;have h2:=congrArg UInt8.toNat h.2;simp only[UInt8.toNat_ofNat']at h1 h2;omega
theorem d0h(s:Nat)(hs:s<14):∀(l:List Nat) (b:Nat),(∀j∈l,j<s)→a1w (aeq L.env 6 9) (.str (a2j s)) (l.map λj=>.str (a2j j)) b=some none
 | [],b,_=>rfl
 |j::l,b,h=>by
  have hne:(a2j s==a2j j)=false:=by rw[beq_eq_false_iff_ne];intro e;have:=b9l hs (by have:=h j (by simp);omega) e;have:=h j (by simp);omega
  simp only[List.map_cons,a1w,eqS,hne,cond_false];exact d0h s hs l (b+1) (λj hj=>h j (by simp[hj]))
theorem c8l(i:Nat)(hi:i<14):a1w (aeq L.env 6 9) (.str (a2j i)) (a7x i) 0=some none:=d0h i hi _ 0 (λj hj=>by simpa using hj)
def nmO(i:Nat):AObj:=.map (a7x i) (List.replicate i (.bool true)) (List.range i) i
theorem c8k(i:Nat)(hi:i<14):a5z L.env (a01 [some (nmO i)]) 122 (.map 0) (.str (a2j i)) false=some (.bool false):=by
 have h:=c8l i hi;have e:a5z L.env (a01 [some (nmO i)]) 122 (.map 0) (.str (a2j i)) false=match a1w (aeq L.env 6 9) (.str (a2j i)) (a7x i) 0 with
  |some (some j)=>match(List.replicate i (AV.bool true))[j]? with
   |some v=>some (bif false then .tuple [v,.bool true]else v)
   |none=>none
  |some none=>some (.bool false)
  |none=>none:=by kernel_rfl
 rw[e,h]
theorem c8j(i:Nat)(hi:i<14):a20 L.env (a01 [some (nmO i)]) 122 (.map 0) (.str (a2j i)) (.bool true)=some (.set 0 (nmO (i+1))):=by
 have h:=c8l i hi;unfold a20;have e:a8x L.env (a01 [some (nmO i)]) 122 (.map 0) (.str (a2j i))=match a1w (aeq L.env 6 9) (.str (a2j i)) (a7x i) 0 with
  |some (some j)=>match(a7x i)[j]? with
   |some k0=>bif d58 k0 (.str (a2j i))then some (0,a7x i,List.replicate i (AV.bool true),List.range i,i,some j)else none
   |none=>none
  |some none=>some (0,a7x i,List.replicate i (AV.bool true),List.range i,i,none)
  |none=>none:=by kernel_rfl
 rw[e,h];simp only[nmO,c1v,List.range_succ,List.replicate_succ']
theorem c1u(i:Nat):a0y (some (nmO i))=[]:=by
 simp only[nmO,a0y,a7x];have h1:∀l:List Nat,a0e (l.map λj=>AV.str (a2j j))=[]:=by intro l;induction l with|nil=>rfl|cons a l ih=>simp[a0e,refs,ih]
 have h2:∀n,a0e (List.replicate n (AV.bool true))=[]:=by intro n;induction n with|zero=>rfl|succ n ih=>simp[List.replicate_succ,a0e,refs,ih]
 rw[h1,h2];rfl
theorem d6b(π:Nat→Option Nat)(i:Nat):a0f π (nmO i)=nmO i:=by have h:=c1u i;simp only[nmO,a0y,List.append_eq_nil_iff]at h;simp only[nmO,a0f,a35 π h.1,a35 π h.2]
theorem d32(c:Cir)(h:c.wf):sem L.env Mf 172 [.agg c.enc] []=some (.int .i64 0,[]):=by
 have hn:=h.len;have hnm:c.names.length=c.nodes.length:=by rw[h.names];simp
 simp only[Cir.enc]
 (refine sv Tryz.f172 ?_;simp only[Tryz.f172,gS])
 (repeat first|simp only[ww]|(apply xa;simp+decide only[go_sem];rfl;kernel_rfl))
 have e0:AObj.map [] [] [] 0=nmO 0:=by rfl
 refine a0p (σ:=Nat) kp172_0 (λi=>[(3,.map 0),(8,sl c.mc (c.names.map a1h)),(9,.int .i64 c.names.length),(10,.int .i64 i)])
  (λi=>[some (nmO i)]) (λi=>c.names.length-i) (λi=>i≤c.names.length) 0 ?_ (Nat.zero_le _) ?_
 ·rw[e0]
  (simp+decide only[go_sem,a03,a00,c1u,d6b]<;>rfl)
 ·intro i hi;by_cases hlt:i<c.names.length
  ·have hx:c.names[i]?=some (a2j i):=by rw[h.names,List.getElem?_map,List.getElem?_range (by omega)];rfl
   have c1:(i:Int)<c.names.length:=by omega
   have hw:=wI1 (n:=i) (by omega);have hcn:=λH=>c24 (d:=false) H i (by omega);have hlk:=c8k i (by omega);have hup:=c8j i (by omega)
   (repeat first|simp only[ww]|(apply xa;simp+decide only[go_sem,c1,hlt,hx,hw,hcn,hlk,hup];rfl;kernel_rfl))
   refine a27 (i+1) ?_ (by omega) (by omega)
   (simp+decide only[go_sem,a03,a00,c1u,d6b]<;>rfl)
  ·obtain rfl:i=c.names.length:=by omega
   have c1:¬(c.names.length:Int)<c.names.length:=by omega
   (repeat first|simp only[ww]|(apply xa;simp+decide only[go_sem,c1];rfl;kernel_rfl))
   (apply fqb;simp+decide only[go_sem]<;>rfl)
theorem a49(c:Cir):a0e [.agg c.enc]=[]:=by simp only[a07,a0s,Cir.enc,go_sem]
theorem c5c{d:Bool}(H:a02)(c:Cir)(h:c.wf):a0a L.env d (sem L.env Mf) (.func (.func 172) [] []) [.agg c.enc] H=some (.int .i64 0,H,[]):=a04 (by kernel_rfl) (by kernel_rfl) rfl (a49 c) (d32 c h) rfl
theorem d2i(c:Cir)(h:c.wf):sem L.env Mf 134 [.agg c.enc] []=some (.int .i64 0,[]):=by
 have hn:=h.len;have hnm:c.names.length=c.nodes.length:=by rw[h.names];simp
 have hol:=h.outl;have c1:¬(16384:Int)<c.nodes.length:=by omega
 have c2:¬(16384:Int)<c.outs.length:=by omega
 have hno:=λH x hx=>c8g (d:=false) H c h x hx;have hna:=λH=>c5c (d:=false) H c h;have hou:=λH=>a7w (d:=true) H c;have hcf:=λH=>c09 (d:=true) H c c.oc c.outs (by omega) h.outs;have hlen:c.enc.length=4:=rfl;simp only[Cir.enc]at hno hna hou hcf⊢
 (refine sv Tryz.f134 ?_;simp only[Tryz.f134,gS])
 (repeat first|simp only[ww]|(apply xa;simp+decide only[go_sem,c1,c2,hnm];rfl;kernel_rfl))
 refine a0p (σ:=Nat) kp134_1 (λi=>[(1,.ptr 0 0 0),(36,sl c.nc (c.nodes.map Nd.enc)),(37,.int .i64 c.nodes.length),(38,.int .i64 i)])
  (λi=>[some (.row 4 [[sl c.nc (c.nodes.map Nd.enc),sl c.mc (c.names.map a1h),.nilslice,sl c.oc (c.outs.map a0h)]])]) (λi=>c.nodes.length-i) (λi=>i≤c.nodes.length) 0 ?_ (Nat.zero_le _) ?_
 ·(simp+decide only[go_sem,a03,a00]<;>rfl)
 ·intro i hi;by_cases hlt:i<c.nodes.length
  ·obtain⟨x,hx⟩:∃x,c.nodes[i]?=some x:=⟨_,z9e hlt⟩
   have c1:(i:Int)<c.nodes.length:=by omega
   have hw:=wI1 (n:=i) (by omega);have hcx:=λH=>hno H x (List.mem_of_getElem? hx);simp only[Nd.enc]at hcx
   (repeat first|simp only[ww]|(apply xa;simp+decide only[go_sem,c1,hlt,hx,hw,hcx];rfl;kernel_rfl))
   refine a27 (i+1) ?_ (by omega) (by omega)
   (simp+decide only[go_sem,a03,a00]<;>rfl)
  ·obtain rfl:i=c.nodes.length:=by omega
   have c1:¬(c.nodes.length:Int)<c.nodes.length:=by omega
   (repeat first|simp only[ww]|(apply xa;simp+decide only[go_sem,c1,hna];rfl;kernel_rfl))
   refine a0p (σ:=Nat) kp134_3 (λi=>[(1,.ptr 0 0 0),(55,.nilslice),(56,.int .i64 0),(57,.int .i64 0)])
    (λi=>[some (.row 4 [[sl c.nc (c.nodes.map Nd.enc),sl c.mc (c.names.map a1h),.nilslice,sl c.oc (c.outs.map a0h)]])]) (λi=>0) (λi=>True) 0 ?_ trivial ?_
   ·(simp+decide only[go_sem,a03,a00]<;>rfl)
   ·intro i _
    (repeat first|simp only[ww]|(apply xa;simp+decide only[go_sem,hou,hcf];rfl;kernel_rfl))
    (apply fqb;simp+decide only[go_sem]<;>rfl)
theorem c4w{d:Bool}(H:a02)(c:Cir)(h:c.wf):a0a L.env d (sem L.env Mf) (.func (.func 134) [] []) [.agg c.enc] H=some (.int .i64 0,H,[]):=a04 (by kernel_rfl) (by kernel_rfl) rfl (a49 c) (d2i c h) rfl
theorem b47{d:Bool}(H:a02)(k:Nat)(hk:k<256):a0a L.env d (sem L.env Mf) (.func (.func 61) [] []) [.int .u8 k] H=some (.bool (a1p k),H,[]):=a04 (by kernel_rfl) (by kernel_rfl) rfl rfl (d9k k hk) rfl
def foE(fo:List (List (Nat×Nat))):List (List (List AV)):=fo.map (·.map a7z)
theorem a5y(fo:List (List (Nat×Nat))):(foE fo).length=fo.length:=by unfold foE;simp
theorem a79{fo:List (List (Nat×Nat))}{j:Nat}{L:List (Nat×Nat)}(h:fo[j]?=some L):(foE fo)[j]?=some (L.map a7z):=by unfold foE;rw[List.getElem?_map,h];rfl
theorem d0c(fo:List (List (Nat×Nat)))(j:Nat)(L:List (Nat×Nat))(i k:Nat):(foE fo).set j (L.map a7z++[a7z (i,k)])=foE (fo.set j (L++[(i,k)])):=by unfold foE;rw[List.map_set,List.map_append];rfl
def J0(c:Cir)(n:Nat)(F:Frm)(H:a02):Prop:=∃i b ids fo,n=c.nodes.length-i∧i≤c.nodes.length∧
 F=[(3,.slice b 0 c.nodes.length (some c.nodes.length)),(4,c3f c),(18,sl c.nc (c.nodes.map Nd.enc)),(19,.int .i64 c.nodes.length),(20,.int .i64 i)]∧Two H b 2 ids (λ_=>none) (foE fo)∧FoOk c.nodes i 0 fo
def J2(c:Cir)(i:Nat)(x:Nd)(n:Nat)(F:Frm)(H:a02):Prop:=∃k b ids fo,n=x.ins.length-k∧k≤x.ins.length∧
 F=[(3,.slice b 0 c.nodes.length (some c.nodes.length)),(4,c3f c),(5,.int .i64 i),(18,sl c.nc (c.nodes.map Nd.enc)),(19,.int .i64 c.nodes.length),(20,.int .i64 i),(26,sl x.c (x.ins.map a0h)),(27,.int .i64 x.ins.length),(28,.int .i64 k)]∧Two H b 2 ids (λ_=>none) (foE fo)∧FoOk c.nodes i k fo
def cpT(fo:List (List (Nat×Nat)))(t:Nat):Nat→Option Nat:=λj=>if j<t then(fo[j]?).map List.length else none
def J4(c:Cir)(fo:List (List (Nat×Nat)))(n:Nat)(F:Frm)(H:a02):Prop:=∃t b ids,n=c.nodes.length-t∧t≤c.nodes.length∧
 F=[(3,.slice b 0 c.nodes.length (some c.nodes.length)),(51,.slice b 0 c.nodes.length (some c.nodes.length)),(52,.int .i64 c.nodes.length),(53,.int .i64 t)]∧Two H b 2 ids (cpT fo t) (foE fo)
theorem d21(H:a02)(n:Nat)(b:Nat)(h:a01 H b=some (.row 1 (List.replicate n [.nilslice]))):Two H b 2 (λ_=>0) (λ_=>none) (foE (List.replicate n [])):=by
 have hfo:foE (List.replicate n [])=List.replicate n []:=by unfold foE;rw[List.map_replicate];rfl
 rw[hfo];have hno:∀(j:Nat) (f:List (List AV)),(List.replicate n ([]:List (List AV)))[j]?=some f→f=[]:=by
  intro j f hf;rw[List.getElem?_replicate]at hf;split at hf
  ·cases hf;rfl
  ·cases hf
 refine⟨?_,λj f hf hne=>absurd (hno j f hf) hne,λi j f g hf _ hne=>absurd (hno i f hf) hne,λf hf=>?_⟩
 ·rw[h]
  congr 2
  apply List.ext_getElem?;intro j;unfold a2c;rw[List.getElem?_mapIdx,List.getElem?_replicate,List.getElem?_replicate];split<;>rfl
 ·rw[(List.mem_replicate.1 hf).2];exact FlatR.nil
theorem d4l(fo:List (List (Nat×Nat))):cpT fo 0=λ_=>none:=by funext j;simp[cpT]
theorem d4m{fo:List (List (Nat×Nat))}{t:Nat}{L:List (Nat×Nat)}(h:fo[t]?=some L):(λi=>if i=t then some L.length else cpT fo t i)=cpT fo (t+1):=by
 funext j
 unfold cpT;by_cases h1:j=t
 ·subst h1;simp[h]
 ·by_cases h2:j<t
  ·simp[h1,h2,show j<t+1 by omega]
  ·simp[h1,h2,show ¬j<t+1 by omega]
theorem d0w:sem L.env Mf 176 [.nilslice] []=some (.nilslice,[]):=by
 (refine sv Tryz.f176 ?_;simp only[Tryz.f176,gS])
 (repeat first|simp only[ww]|(apply xa;simp+decide only[go_sem];rfl;kernel_rfl))
 (apply fqb;simp+decide only[go_sem]<;>rfl)
theorem d4w(n:Nat)(rows:List (List AV))(hf:FlatR rows):sem L.env Mf 176 [.slice 0 0 n none] [some (.row 2 rows)]=some (.slice 0 0 n (some n),[some (.row 2 rows)]):=by
 have h1:=λπ=>a06 π hf
 (refine sv Tryz.f176 ?_;simp only[Tryz.f176,gS])
 (repeat first|simp only[ww]|(apply xa;simp+decide only[go_sem];rfl;kernel_rfl))
 (apply fqb;simp+decide only[go_sem,h1]<;>rfl)
theorem c2k{d:Bool}(H:a02):a0a L.env d (sem L.env Mf) (.func (.func 176) [] []) [.nilslice] H=some (.nilslice,H,[]):=a04 (by kernel_rfl) (by kernel_rfl) rfl rfl d0w rfl
theorem c6b{d:Bool}{H:a02}{b n:Nat}{rows:List (List AV)}(hf:FlatR rows)(hb:a01 H b=some (.row 2 rows)):a0a L.env d (sem L.env Mf) (.func (.func 176) [] []) [.slice b 0 n none] H=some (.slice b 0 n (some n),H,[b]):=by have h:=a40 (E:=L.env) (draw:=d) (call:=sem L.env Mf) (g:=176) (fs:=[]) (cs:=[]) (ar:=[.slice b 0 n none]) (H:=H) (b:=b) (by kernel_rfl) (by kernel_rfl) rfl hb (a0m hf) (FlatO.row hf) rfl (args':=[AV.slice 0 0 n none]) (by simp only[List.nil_append,List.append_nil,List.map_cons,List.map_nil,a1y]) (d4w n rows hf) (FlatO.row hf) (a4t b 0 _ n _);rw[a8g hb]at h;exact h
theorem d0i(c:Cir)(h:c.wf):∃r:AV×a02,(∃fo,FoOk c.nodes c.nodes.length 0 fo∧r=(AV.islice ((foE fo).mapIdx λj f=>[slF (cpT fo c.nodes.length j) f]) (some c.nodes.length),[]))∧sem L.env Mf 135 [.agg c.enc] []=some r:=by
 have hn:=h.len;have hou:=λH=>a7w (d:=false) H c;have hrm:c.nodes.length≤1000000000:=by omega
 have hov:refs (c3f c)=[]:=rfl;have hor:∀π,ren π (c3f c)=c3f c:=λπ=>a0d π _ rfl;have ho1:=λH m hm=>b9j (d:=false) H c m hm;generalize hO:c3f c=O at hou hov hor ho1;simp only[Cir.enc]at hou⊢
 (refine svE Tryz.f135 ?_;simp only[Tryz.f135,gS])
 (repeat first|simp only[ww]|(apply xa;simp+decide only[go_sem,hou,hrm];rfl;kernel_rfl))
 refine a4j kp135_0 (J0 c) (c.nodes.length-0) ?_ ?_
 ·refine a66 (d21 _ c.nodes.length 1 rfl) ?_ (by rw[a5y];simp;omega) ?_
  ·exact .inl (by simp+decide only[go_sem,hov])
  ·intro π b' ids' H1 hb hT;refine⟨0,b',ids',_,rfl,Nat.zero_le _,?_,hT,FoOk.zero _⟩;simp+decide only[go_sem,hb,hor,hO]<;>rfl
 ·rintro n F H ⟨i,b,ids,fo,rfl,hi,rfl,hT,hF⟩
  by_cases hlt:i<c.nodes.length
  ·obtain⟨x,hx⟩:∃x,c.nodes[i]?=some x:=⟨_,z9e hlt⟩
   have c1:(i:Int)<c.nodes.length:=by omega
   have hw:=wI1 (n:=i) (by omega);have hbl:=a1c hT.top;have hxi:=a22 hx;rw[hO]
   (repeat first|simp only[ww]|(apply xa;simp+decide only[go_sem,c1,hlt,hx,hw,a6q,a6a,b0h,b5g,b0s];rfl;kernel_rfl))
   refine a4j kp135_2 (J2 c i x) (x.ins.length-0) ?_ ?_
   ·refine a66 (hT.more) ?_ (by rw[a5y,hF.len];omega) ?_
    ·exact .inl (by simp+decide only[go_sem,hov])
    ·intro π b' ids' H1 hb hT;refine⟨0,b',ids',_,rfl,Nat.zero_le _,?_,hT,hF⟩;simp+decide only[go_sem,hb,hor,hO]<;>rfl
   ·rintro n F H ⟨k,b,ids,fo,rfl,hk,rfl,hT,hF⟩
    rw[hO];by_cases hkl:k<x.ins.length
    ·obtain⟨m,hm⟩:∃m,x.ins[k]?=some m:=⟨_,z9e hkl⟩
     have hmn:=h.ins x (List.mem_of_getElem? hx) m (List.mem_of_getElem? hm);have hom:=λH=>ho1 H m hmn;have c2:(k:Int)<x.ins.length:=by omega
     have hil:=h.insl (List.mem_of_getElem? hx);have hw2:=wI1 (n:=k) (by omega);have hbl:=a1c hT.top;have htop:=hT.top;have hmf:m<fo.length:=by rw[hF.len];exact hmn
     obtain⟨L,hL⟩:∃L,fo[m]?=some L:=⟨_,z9e hmf⟩
     have hget:=a51 (ids:=ids) (cp:=λ_=>none) (a79 hL);have hstep:=hF.step (by rw[hxi];exact hm) hL;have hrl:(a2c ids (λ_=>none) (foE fo)).length=c.nodes.length:=by rw[a2l,a5y,hF.len]
     cases L with
     |nil=>
      simp only[List.map_nil,slV]at hget
      (repeat first|simp only[ww]|(apply xa;simp+decide only[go_sem,c2,hkl,hm,hw2,hom,hbl,htop,hmn,hget,a6q,a6a,a77,b0h,b5g,b98,b0s,a9w,List.append_assoc,List.cons_append,List.nil_append,hrl];rfl;kernel_rfl))
      refine a1j (x.ins.length-(k+1)) (by omega) ?_;have hT2:=hT.app1 (o:=some (.row 2 [a7z (i,k)])) (x:=a7z (i,k)) (a79 hL) rfl rfl;have e2:(foE fo).set m [a7z (i,k)]=foE (fo.set m ([]++[(i,k)])):=d0c fo m [] i k;rw[e2]at hT2;refine a66 hT2 ?_ (by rw[a5y,List.length_set,hF.len];omega) ?_
      ·exact .inl (by simp+decide only[go_sem,hov])
      ·intro π b' ids' H1 hb hT;refine⟨k+1,b',ids',_,rfl,hkl,?_,hT,hstep⟩;simp+decide only[go_sem,hb,hor,hO]<;>rfl
     |cons a r=>
      simp only[List.map_cons,slV]at hget;have hsub:=hT.sub m _ (a79 hL) (by simp);obtain⟨s1,s2⟩:=hsub;have s3:=a1c s1;simp only[List.map_cons]at s1;have hLl:r.length+1+1≤1000000000:=by have:=hF.total hL (h.len) (λy hy=>h.insl hy);simp only[List.length_cons]at this;omega
      (repeat first|simp only[ww]|(apply xa;simp+decide only[go_sem,c2,hkl,hm,hw2,hom,hbl,htop,hmn,hget,a6q,a6a,a77,c5q,List.length_set,s1,s2,s3,hLl,b0h,b5g,b98,b0s,a9w,List.append_assoc,List.cons_append,List.nil_append,hrl];rfl;kernel_rfl))
      refine a1j (x.ins.length-(k+1)) (by omega) ?_;have hT2:=hT.app2 (o:=some (.row 2 [a7z (i,k)])) (x:=a7z (i,k)) (a79 hL) rfl rfl;have e2:(foE fo).set m (a7z a::List.map a7z r++[a7z (i,k)])=foE (fo.set m (a::r++[(i,k)])):=d0c fo m (a::r) i k;rw[e2]at hT2;rw[List.length_map]at hT2;refine a66 hT2 ?_ (by rw[a5y,List.length_set,hF.len];omega) ?_
      ·exact .inl (by simp+decide only[go_sem,hov])
      ·intro π b' ids' H1 hb hT;refine⟨k+1,b',ids',_,rfl,hkl,?_,hT,hstep⟩;simp+decide only[go_sem,hb,hor,hO]<;>rfl
    ·obtain rfl:k=x.ins.length:=by omega
     have c2:¬(x.ins.length:Int)<x.ins.length:=by omega
     (repeat first|simp only[ww]|(apply xa;simp+decide only[go_sem,c2,hw];rfl;kernel_rfl))
     refine a1j (c.nodes.length-(i+1)) (by omega) ?_;refine a66 hT ?_ (by rw[a5y,hF.len];omega) ?_
     ·exact .inl (by simp+decide only[go_sem,hov])
     ·intro π b' ids' H1 hb hT;refine⟨i+1,b',ids',_,rfl,by omega,?_,hT,hF.next (by rw[hxi])⟩;simp+decide only[go_sem,hb,hor,hO]<;>rfl
  ·obtain rfl:i=c.nodes.length:=by omega
   have c1:¬(c.nodes.length:Int)<c.nodes.length:=by omega
   rw[hO]
   (repeat first|simp only[ww]|(apply xa;simp+decide only[go_sem,c1];rfl;kernel_rfl))
   refine a4j kp135_4 (J4 c fo) (c.nodes.length-0) ?_ ?_
   ·refine a66 hT ?_ (by rw[a5y,hF.len];omega) ?_
    ·exact .inr (by simp+decide only[go_sem,hov])
    ·intro π b' ids' H1 hb hT;refine⟨0,b',ids',rfl,Nat.zero_le _,?_,by rw[d4l];exact hT⟩;simp+decide only[go_sem,hb,hor,hO]<;>rfl
   ·rintro n F H ⟨t,b,ids,rfl,ht,rfl,hT⟩
    by_cases htl:t<c.nodes.length
    ·have c2:(t:Int)<c.nodes.length:=by omega
     have hw2:=wI1 (n:=t) (by omega);have hbl:=a1c hT.top;have htop:=hT.top;obtain⟨L,hL⟩:∃L,fo[t]?=some L:=⟨_,z9e (by rw[hF.len];exact htl)⟩
     have hget:=a51 (ids:=ids) (cp:=cpT fo t) (a79 hL);have hct:cpT fo t t=none:=by simp[cpT]
     have hrl:(a2c ids (cpT fo t) (foE fo)).length=c.nodes.length:=by rw[a2l,a5y,hF.len]
     rw[hct]at hget;have hfin:∀H1,H1=H.set b (some (.row 1 ((a2c ids (cpT fo t) (foE fo)).set t [slV (ids t) (some L.length) (L.map a7z)])))→Two H1 b 2 ids (cpT fo (t+1)) (foE fo):=by
      intro H1 hH1;have:=hT.clip (H1:=H1) (a79 hL) (by rw[hH1,b1j hbl]) (λc hc=>by rw[hH1,a38 (Ne.symm hc)])
      rwa [d4m hL]at this
     cases L with
     |nil=>
      simp only[List.map_nil,slV]at hget;have hcl:=λH=>c2k (d:=false) H
      (repeat first|simp only[ww]|(apply xa;simp+decide only[go_sem,c2,htl,hw2,hbl,htop,hget,hcl,hrl,List.length_set];rfl;kernel_rfl))
      refine a1j (c.nodes.length-(t+1)) (by omega) ?_;refine a66 (hfin _ rfl) ?_ (by rw[a5y,hF.len];omega) ?_
      ·exact .inr (by simp+decide only[go_sem,hov])
      ·intro π b' ids' H1 hb hT;refine⟨t+1,b',ids',rfl,by omega,?_,hT⟩;simp+decide only[go_sem,hb,hor,hO]<;>rfl
     |cons a r=>
      simp only[List.map_cons,slV]at hget;obtain⟨s1,s2⟩:=hT.sub t _ (a79 hL) (by simp);have hcl:=c6b (d:=false) (H:=H) (b:=ids t) (n:=r.length+1) (hT.flat _ (List.mem_of_getElem? (a79 hL))) s1
      (repeat first|simp only[ww]|(apply xa;simp+decide only[go_sem,c2,htl,hw2,hbl,htop,hget,hcl,hrl,List.length_set];rfl;kernel_rfl))
      refine a1j (c.nodes.length-(t+1)) (by omega) ?_;refine a66 (hfin _ (by simp only[List.map_cons,slV,List.length_map,List.length_cons])) ?_ (by rw[a5y,hF.len];omega) ?_
      ·exact .inr (by simp+decide only[go_sem,hov])
      ·intro π b' ids' H1 hb hT;refine⟨t+1,b',ids',rfl,by omega,?_,hT⟩;simp+decide only[go_sem,hb,hor,hO]<;>rfl
    ·obtain rfl:t=c.nodes.length:=by omega
     have c2:¬(c.nodes.length:Int)<c.nodes.length:=by omega
     have hz:=hT.frz (some c.nodes.length);rw[a5y,hF.len]at hz
     (repeat first|simp only[ww]|(apply xa;simp+decide only[go_sem,c2];rfl;kernel_rfl))
     refine b83 (vs:=[.slice b 0 c.nodes.length (some c.nodes.length)]) (r:=(_,[])) (by simp+decide only[go_sem]) ?_ ⟨fo,hF,rfl⟩;show a26 false 0 (.slice b 0 c.nodes.length (some c.nodes.length)) H=_;rw[d0g,hz];rfl
def foR(c:Cir)(fo:List (List (Nat×Nat))):List (List AV):=(foE fo).mapIdx λj f=>[slF (cpT fo c.nodes.length j) f]
theorem d95{c:Cir}{fo:List (List (Nat×Nat))}{j:Nat}{L:List (Nat×Nat)}(h:fo[j]?=some L)(hj:j<c.nodes.length):(foR c fo)[j]?=some [slF (some L.length) (L.map a7z)]:=by unfold foR;rw[List.getElem?_mapIdx,a79 h];simp[cpT,hj,h]
theorem c2f(c:Cir)(h:c.wf):∃fo,FoOk c.nodes c.nodes.length 0 fo∧∀(d:Bool) (H:a02),a0a L.env d (sem L.env Mf) (.func (.func 135) [] []) [.agg c.enc] H=some (.islice (foR c fo) (some c.nodes.length),H,[]):=by obtain⟨r,⟨fo,h1,rfl⟩,h2⟩:=d0i c h;exact⟨fo,h1,λd H=>a04 (by kernel_rfl) (by kernel_rfl) rfl (a49 c) h2 rfl⟩
def kcb(c:Cir):Option AObj:=some (.row 4 [[sl c.nc (c.nodes.map Nd.enc),sl c.mc (c.names.map a1h),.nilslice,sl c.oc (c.outs.map a0h)]])
attribute [go_sem] kcb
def JL2(c:Cir)(fo:List (List (Nat×Nat)))(n:Nat)(F:Frm)(H:a02):Prop:=∃(out left ready:List Nat) (done:Nat),n=c.nodes.length-done∧
 F=[(1,.ptr 0 0 0),(5,.slice 1 0 c.nodes.length (some c.nodes.length)),(6,.slice 2 0 c.nodes.length (some c.nodes.length)),(7,grV 3 (ready.map a0h)),(10,.islice (foR c fo) (some c.nodes.length)),(11,.int .i64 done)]∧
 H=[kcb c,some (.row 1 (out.map a0h)),some (.row 1 (left.map a0h))]++grH 1 (ready.map a0h)∧Kahn c.nodes left ready done []∧out.length=c.nodes.length∧(∀v∈out,v≤300*done)∧Lev c.nodes out ready done []
def JL4(c:Cir)(fo:List (List (Nat×Nat)))(done x:Nat)(L:List (Nat×Nat))(n:Nat)(F:Frm)(H:a02):Prop:=∃(out left ready:List Nat) (q:Nat),n=L.length-q∧q≤L.length∧
 F=[(1,.ptr 0 0 0),(5,.slice 1 0 c.nodes.length (some c.nodes.length)),(6,.slice 2 0 c.nodes.length (some c.nodes.length)),(7,grV 3 (ready.map a0h)),(10,.islice (foR c fo) (some c.nodes.length)),(11,.int .i64 (done+1:Nat)),(12,.int .i64 x),(76,.islice (L.map a7z) (some L.length)),(77,.int .i64 L.length),(78,.int .i64 q)]∧
 H=[kcb c,some (.row 1 (out.map a0h)),some (.row 1 (left.map a0h))]++grH 1 (ready.map a0h)∧Kahn c.nodes left ready done (L.take q)∧ready[done]?=some x∧out.length=c.nodes.length∧(∀v∈out,v≤300*done+q)∧Lev c.nodes out ready done (L.take q)
theorem e9r(n:Nat):List.replicate n [AV.int .i64 0]=(List.replicate n 0).map a0h:=by rw[List.map_replicate];rfl
theorem d5d(a b:Nat):d5e (.int .i64 a) [.int .i64 (b:Int)]=some (.int .i64 ((max a b:Nat):Int)):=by
 simp only[d5e];by_cases h:(b:Int)>a
 ·rw[if_pos h];congr 2;omega
 ·rw[if_neg h];congr 2;omega
theorem c95(c:Cir)(h:c.wf):∃r:AV×a02,(∃lv:List Nat,lv.length=c.nodes.length∧(∀v∈lv,v≤100000)∧Rises c.nodes lv∧r=(.tuple [.islice (lv.map a0h) (some c.nodes.length),.int .i64 0],[]))∧sem L.env Mf 84 [.agg c.enc] []=some r:=by
 have hn:=h.len;obtain⟨fo,hfo,hfc⟩:=c2f c h;have hfc:=hfc false;have hsh:=λH=>c4w (d:=false) H c h;have hrm:c.nodes.length≤1000000000:=by omega
 have hko:a0y (kcb c)=[]:=by simp only[go_sem]
 simp only[Cir.enc]at hfc hsh⊢
 (refine svE Tryz.f84 ?_;simp only[Tryz.f84,gS])
 (repeat first|simp only[ww]|(apply xa;simp+decide only[go_sem,hsh,hrm];rfl;kernel_rfl))
 refine a0p (σ:=Nat) kp84_0 (λi=>[(1,.ptr 0 0 0),(5,.slice 1 0 c.nodes.length (some c.nodes.length)),(6,.slice 2 0 c.nodes.length (some c.nodes.length)),(7,grV 3 ((a3u c.nodes i).map a0h)),(29,sl c.nc (c.nodes.map Nd.enc)),(30,.int .i64 c.nodes.length),(31,.int .i64 i)])
  (λi=>[kcb c,some (.row 1 ((List.replicate c.nodes.length 0).map a0h)),some (.row 1 ((a37 c.nodes i).map a0h))]++grH 1 ((a3u c.nodes i).map a0h)) (λi=>c.nodes.length-i) (λi=>i≤c.nodes.length) 0 ?_ (Nat.zero_le _) ?_
 ·rw[c21,show a3u c.nodes 0=[]from rfl]
  (simp+decide only[go_sem,a03,a00,e9r,List.map_nil,a0t,a0u,a2q,a48]<;>rfl)
 ·intro i hi;by_cases hlt:i<c.nodes.length
  ·obtain⟨x,hx⟩:∃x,c.nodes[i]?=some x:=⟨_,z9e hlt⟩
   have c1:(i:Int)<c.nodes.length:=by omega
   have hw:=wI1 (n:=i) (by omega);have k14:=h.kind x (List.mem_of_getElem? hx);have hcb:=λH=>b47 (d:=false) H x.kind (by omega);have hll:(a37 c.nodes i).length=c.nodes.length:=by simp[a37]
   have hgl:(a37 c.nodes i)[i]?=some 0:=by rw[a5i hlt];simp
   have hrl:=c55 c.nodes i;have hrs:=b9c c.nodes i;have hset:=b3j hlt;have hgl2:(a37 c.nodes (i+1))[i]?=some (a9v c.nodes i):=by rw[a5i hlt];simp
   have hnd:a9v c.nodes i=if a1p x.kind=true then x.ins.length else 0:=by unfold a9v;rw[a1e hx,a22 hx]
   have hsetR:((a37 c.nodes i).map a0h).set i [AV.int .i64 (a9v c.nodes i)]=(a37 c.nodes (i+1)).map a0h:=by rw[←hset,List.map_set];rfl
   by_cases hcm:a1p x.kind=true
   ·rw[if_pos hcm]at hnd;rw[hnd]at hsetR hgl2 hrs;by_cases hz:x.ins.length=0
    ·rw[if_pos hz]at hrs;have hz':(x.ins.length:Int)=0:=by omega
     rw[hz]at hsetR hgl2;generalize a3u c.nodes i=l at hrl hrs;cases l with
     |nil=>
      (repeat first|simp only[ww]|(apply xa;simp+decide only[go_sem,c1,hlt,hx,hw,hcb,hcm,hll,hgl,hsetR,hgl2,hz,List.map_nil,a0t,a0u];rfl;kernel_rfl))
      refine a27 (i+1) ?_ (by omega) (by omega);rw[hrs]
      (simp+decide only[go_sem,a03,a00,List.map_nil,List.nil_append,List.map_cons,a0b,a0c,List.length_nil,a2q,a48]<;>rfl)
     |cons a r=>
      simp only[List.length_cons]at hrl;have hrm2:r.length+1+1≤1000000000:=by omega
      (repeat first|simp only[ww]|(apply xa;simp+decide only[go_sem,c1,hlt,hx,hw,hcb,hcm,hll,hgl,hsetR,hgl2,hz,List.map_cons,a0b,a0c,hrm2,List.length_cons];rfl;kernel_rfl))
      refine a27 (i+1) ?_ (by omega) (by omega);rw[hrs]
      (simp+decide only[go_sem,a03,a00,List.cons_append,List.map_cons,a0b,a0c,a2q,a48,List.length_cons]<;>rfl)
    ·rw[if_neg hz]at hrs;have hz':¬(x.ins.length:Int)=0:=by omega
     generalize a3u c.nodes i=l at hrl hrs;cases l with
     |nil=>
      (repeat first|simp only[ww]|(apply xa;simp+decide only[go_sem,c1,hlt,hx,hw,hcb,hcm,hll,hgl,hsetR,hgl2,hz',List.map_nil,a0t,a0u];rfl;kernel_rfl))
      refine a27 (i+1) ?_ (by omega) (by omega);rw[hrs]
      (simp+decide only[go_sem,a03,a00,List.map_nil,a0t,a0u,a2q,a48]<;>rfl)
     |cons a r=>
      (repeat first|simp only[ww]|(apply xa;simp+decide only[go_sem,c1,hlt,hx,hw,hcb,hcm,hll,hgl,hsetR,hgl2,hz',List.map_cons,a0b,a0c];rfl;kernel_rfl))
      refine a27 (i+1) ?_ (by omega) (by omega);rw[hrs]
      (simp+decide only[go_sem,a03,a00,List.map_cons,a0b,a0c,a2q,a48]<;>rfl)
   ·have hcm:a1p x.kind=false:=by simpa using hcm
    rw[hcm]at hnd;have hnd:a9v c.nodes i=0:=hnd;rw[hnd,if_pos rfl]at hrs;have hsame:=c22 hlt hnd
    ·
     generalize a3u c.nodes i=l at hrl hrs;cases l with
     |nil=>
      (repeat first|simp only[ww]|(apply xa;simp+decide only[go_sem,c1,hlt,hx,hw,hcb,hcm,hll,hgl,List.map_nil,a0t,a0u];rfl;kernel_rfl))
      refine a27 (i+1) ?_ (by omega) (by omega);rw[hrs,←hsame]
      (simp+decide only[go_sem,a03,a00,List.map_nil,List.nil_append,List.map_cons,a0b,a0c,List.length_nil,a2q,a48]<;>rfl)
     |cons a r=>
      simp only[List.length_cons]at hrl;have hrm2:r.length+1+1≤1000000000:=by omega
      (repeat first|simp only[ww]|(apply xa;simp+decide only[go_sem,c1,hlt,hx,hw,hcb,hcm,hll,hgl,List.map_cons,a0b,a0c,hrm2,List.length_cons];rfl;kernel_rfl))
      refine a27 (i+1) ?_ (by omega) (by omega);rw[hrs,←hsame]
      (simp+decide only[go_sem,a03,a00,List.cons_append,List.map_cons,a0b,a0c,a2q,a48,List.length_cons]<;>rfl)
  ·obtain rfl:i=c.nodes.length:=by omega
   have c1:¬(c.nodes.length:Int)<c.nodes.length:=by omega
   have hK:=Kahn.start c.nodes;generalize a3u c.nodes c.nodes.length=ready at hK;generalize a37 c.nodes c.nodes.length=left at hK
   (repeat first|simp only[ww]|(apply xa;simp+decide only[go_sem,c1,hfc];rfl;kernel_rfl))
   refine a4j kp84_2 (JL2 c fo) (c.nodes.length-0) ?_ ?_
   ·refine⟨_,_,?_,List.replicate c.nodes.length 0,left,ready,0,rfl,rfl,rfl,hK,by simp,by simp,Lev.start _ _ _⟩;cases ready with
    |nil=>(simp+decide only[go_sem,a03,a00,List.map_nil,a0t,a0u,a2q,a48]<;>rfl)
    |cons a r=>(simp+decide only[go_sem,a03,a00,List.map_cons,a0b,a0c,a2q,a48]<;>rfl)
   ·rintro n F H ⟨out,left,ready,done,rfl,rfl,rfl,hK,hol,hob,hV⟩
    have hne:ready≠[]:=by
     rintro rfl
     have hd0:done=0:=by have:=hK.dle;simpa using this
     subst hd0;have h1:c.nodes.length≤0:=hK.all h.acyc;have h2:=h.pos;omega
    have hbd:=hK.bound;have hdl:=hK.dle;have hneE:ready.map a0h≠[]:=by simpa using hne
    rw[a7i 3 hneE,a7j 1 hneE,List.length_map];have hwd:=wI1 (n:=done) (by omega);have hll:=hK.ll;by_cases hlt:done<ready.length
    ·obtain⟨x,hx⟩:∃x,ready[done]?=some x:=⟨_,z9e hlt⟩
     have hxn:=hK.rn x (List.mem_of_getElem? hx);have c1:(done:Int)<ready.length:=by omega
     obtain⟨L,hL⟩:∃L,fo[x]?=some L:=⟨_,z9e (by rw[hfo.len];exact hxn)⟩
     have hLn:=hfo.node hL (Nat.le_refl _);have hLt:=hfo.total hL hn (λy hy=>h.insl hy);have hLc:∀a,a<c.nodes.length→cnt L a=(a2k c.nodes a).count x:=λa ha=>by rw[hfo.num x L hL a,if_pos ha]
     have hg:=d95 hL hxn;cases hLL:L with
     |nil=>
      subst hLL;simp only[List.map_nil,slF]at hg
      (repeat first|simp only[ww]|(apply xa;simp+decide only[go_sem,c1,hlt,hx,hwd,hg];rfl;kernel_rfl))
      refine a1j (c.nodes.length-(done+1)) (by omega) ⟨_,_,?_,out,left,ready,done+1,rfl,rfl,rfl,hK.next hx hLc,hol,λv hv=>by have:=hob v hv;omega,hV.next hx hLc⟩;rw[a7i 3 hneE,a7j 1 hneE]
      (simp+decide only[go_sem,a03,a00,a2q,a48]<;>rfl)
     |cons l0 lr=>
      rw[hLL]at hg;simp only[List.map_cons,slF]at hg;rw[←List.map_cons,←hLL]at hg;have hLp:L.length≠0:=by rw[hLL];simp
      have hLi:¬(L.length:Int)=0:=by omega
      have hLl:(L.map a7z).length=L.length:=List.length_map ..
      (repeat first|simp only[ww]|(apply xa;simp+decide only[go_sem,c1,hlt,hx,hwd,hg,hLi,hLl];rfl;kernel_rfl))
      refine a4j kp84_4 (JL4 c fo done x L) (L.length-0) ?_ ?_
      ·refine⟨_,_,?_,out,left,ready,0,rfl,Nat.zero_le _,rfl,rfl,by rw[List.take_zero];exact hK,hx,hol,λv hv=>by have:=hob v hv;omega,by rw[List.take_zero];exact hV⟩;rw[a7i 3 hneE,a7j 1 hneE]
       (simp+decide only[go_sem,a03,a00,a2q,a48]<;>rfl)<;>rfl
      ·clear hK hbd hdl hneE hll hob hol hx hlt c1 hne hV
       rintro n F H ⟨out,left,ready,q,rfl,hq,rfl,rfl,hK,hx,hol,hob,hV⟩
       have hbd:=hK.bound;have hdlt:=(List.getElem?_eq_some_iff.1 hx).1;have hne:ready≠[]:=by rintro rfl;simp at hdlt
       have hneE:ready.map a0h≠[]:=by simpa using hne
       rw[a7i 3 hneE,a7j 1 hneE,List.length_map];have hll:=hK.ll;have hwq:=wI1 (n:=q) (by omega);by_cases hql:q<L.length
       ·obtain⟨l,hl⟩:∃l,L[q]?=some l:=⟨_,z9e hql⟩
        obtain⟨a,p⟩:=l;have han:a<c.nodes.length:=hLn (a,p) (List.mem_of_getElem? hl);obtain⟨y,hy⟩:∃y,c.nodes[a]?=some y:=⟨_,z9e han⟩
        have c2:(q:Int)<L.length:=by omega
        have k14:=h.kind y (List.mem_of_getElem? hy);have hcb:=λH=>b47 (d:=false) H y.kind (by omega);have ht:=a1g hl;have hlR:(L.map a7z)[q]?=some [.int .i64 a,.int .i64 p]:=by rw[List.getElem?_map,hl];rfl
        by_cases hcm:a1p y.kind=true
        ·have hkc:a1p (a0x c.nodes a)=true:=by rw[a1e hy];exact hcm
         have hcn:Pc.cnt (L.take q++[(a,p)]) a≤b8v c.nodes ready done a:=by refine Nat.le_trans ?_ (d83 hK.nd hx);rw[←hLc a han,←ht];unfold Pc.cnt;exact List.Sublist.count_le _ ((List.take_sublist _ _).map _)
         have hps:=hK.pos han hkc hcn;have hna:a∉ready:=λhm=>by have:=(hK.zero a han).1 hm;omega
         have hdc:=hK.dec han hkc hcn;rw[←ht]at hdc;obtain⟨va,hva⟩:∃v,out[a]?=some v:=⟨_,z9e (by omega)⟩
         obtain⟨vx,hvx⟩:∃v,out[x]?=some v:=⟨_,z9e (by omega)⟩
         obtain⟨w,hw⟩:∃v,left[a]?=some v:=⟨_,z9e (by omega)⟩
         have hwD:left.getD a 0=w:=by rw[List.getD,hw];rfl
         rw[hwD]at hps hdc;have bx:=hob vx (List.mem_of_getElem? hvx);have ba:=hob va (List.mem_of_getElem? hva);have hw1:=wI1 (n:=vx) (by omega);have hw2:IntKind.i64.wrap ((w:Int)-1)=((w-1:Nat):Int):=by
          have hwl:w≤100000:=by have h1:=hK.eq a han hkc;rw[hwD]at h1;have h2:b8v c.nodes ready done a≤(a2k c.nodes a).length:=List.length_filter_le _ _;rw[a22 hy]at h2;have h3:=h.insl (List.mem_of_getElem? hy);omega
          rw[w64 (by omega) (by omega)];omega
         have hmx:d5e (.int .i64 va) [.int .i64 ((vx+1:Nat):Int)]=some (.int .i64 ((max va (vx+1):Nat):Int)):=d5d _ _;have hsO:(out.map a0h).set a [AV.int .i64 ((max va (vx+1):Nat):Int)]=(out.set a (max va (vx+1))).map a0h:=by rw[List.map_set];rfl
         have hsL:(left.map a0h).set a [AV.int .i64 ((w-1:Nat):Int)]=(left.set a (w-1)).map a0h:=by rw[List.map_set];rfl
         have hgw:(left.set a (w-1))[a]?=some (w-1):=by rw[List.getElem?_set];simp;omega
         have hlo:(left.set a (w-1)).length=c.nodes.length:=by rw[List.length_set];exact hll
         have hoO:(out.set a (max va (vx+1))).length=c.nodes.length:=by rw[List.length_set];exact hol
         have hob2:∀v∈out.set a (max va (vx+1)),v≤300*done+(q+1):=by
          intro v hv;rcases List.mem_or_eq_of_mem_set hv with hv|rfl
          ·have:=hob v hv;omega
          ·omega
         have hdn:done<c.nodes.length:=by omega
         have han':a<left.length:=by omega
         have hxl:x<out.length:=by omega
         by_cases hz:w-1=0
         ·rw[if_pos hz]at hdc;have hz':decide (((w-1:Nat):Int)=0)=true:=decide_eq_true (by omega);have hrm2:ready.length+1≤1000000000:=by omega
          have hx':(ready++[a])[done]?=some x:=by rw[List.getElem?_append_left hdlt];exact hx
          (repeat first|simp only[ww]|(apply xa;simp+decide only[go_sem,c2,hql,hlR,hy,hcb,hcm,hwq,han,hva,hvx,hw,hol,hll,hxn,hw1,hw2,hmx,hsO,hsL,hgw,hlo,hoO,hz',hrm2];rfl;kernel_rfl))
          refine a1j (L.length-(q+1)) (by omega) ⟨_,_,?_,out.set a (max va (vx+1)),left.set a (w-1),ready++[a],q+1,rfl,hql,rfl,rfl,hdc,hx',hoO,hob2,by rw[ht];exact hV.dec hx hna hva hvx (.inr rfl)⟩
          (simp+decide only[go_sem,a03,a00,c3r,d43,a2q,a48]<;>rfl)<;>rfl
         ·rw[if_neg hz]at hdc;have hz':¬((w-1:Nat):Int)=0:=by omega
          (repeat first|simp only[ww]|(apply xa;simp+decide only[go_sem,c2,hql,hlR,hy,hcb,hcm,hwq,han,hva,hvx,hw,hol,hll,hxn,hw1,hw2,hmx,hsO,hsL,hgw,hlo,hoO,hz'];rfl;kernel_rfl))
          refine a1j (L.length-(q+1)) (by omega) ⟨_,_,?_,out.set a (max va (vx+1)),left.set a (w-1),ready,q+1,rfl,hql,rfl,rfl,hdc,hx,hoO,hob2,by rw[ht];exact hV.dec hx hna hva hvx (.inl rfl)⟩;rw[a7i 3 hneE,a7j 1 hneE]
          (simp+decide only[go_sem,a03,a00,a2q,a48]<;>rfl)<;>rfl
        ·have hcm:a1p y.kind=false:=by simpa using hcm
         (repeat first|simp only[ww]|(apply xa;simp+decide only[go_sem,c2,hql,hlR,hy,hcb,hcm,hwq,han];rfl;kernel_rfl))
         refine a1j (L.length-(q+1)) (by omega) ⟨_,_,?_,out,left,ready,q+1,rfl,hql,rfl,rfl,by rw[ht];exact hK.skip (by rw[a1e hy];exact hcm),hx,hol,λv hv=>by have:=hob v hv;omega,by rw[ht];exact hV.skip (by rw[a1e hy];exact hcm)⟩;rw[a7i 3 hneE,a7j 1 hneE]
         (simp+decide only[go_sem,a03,a00,a2q,a48]<;>rfl)<;>rfl
       ·obtain rfl:q=L.length:=by omega
        have c2:¬(L.length:Int)<L.length:=by omega
        rw[List.take_length]at hK hV
        (repeat first|simp only[ww]|(apply xa;simp+decide only[go_sem,c2];rfl;kernel_rfl))
        refine a1j (c.nodes.length-(done+1)) (by omega) ⟨_,_,?_,out,left,ready,done+1,rfl,rfl,rfl,hK.next hx hLc,hol,λv hv=>by have:=hob v hv;omega,hV.next hx hLc⟩;rw[a7i 3 hneE,a7j 1 hneE]
        (simp+decide only[go_sem,a03,a00,a2q,a48]<;>rfl)<;>rfl
    ·obtain rfl:done=ready.length:=by omega
     have c1:¬(ready.length:Int)<ready.length:=by omega
     have hall:=hK.all h.acyc;have c2:¬(ready.length:Int)<c.nodes.length:=by omega
     (repeat first|simp only[ww]|(apply xa;simp+decide only[go_sem,c1,c2];rfl;kernel_rfl))
     refine a2v (vs:=[.slice 1 0 c.nodes.length (some c.nodes.length),.int .i64 0]) (r:=(_,[])) (by simp+decide only[go_sem]) ?_ ⟨out,hol,λv hv=>by have:=hob v hv;omega,hV.all hK hall,rfl⟩;show a26 false 0 (.tuple [.slice 1 0 c.nodes.length (some c.nodes.length),.int .i64 0]) _=_;rw[←hol];simp+decide only[go_sem,d93]
theorem b3g(c:Cir)(h:c.wf):∃lv:List Nat,lv.length=c.nodes.length∧(∀v∈lv,v≤100000)∧Rises c.nodes lv∧∀(d:Bool) (H:a02),a0a L.env d (sem L.env Mf) (.func (.func 84) [] []) [.agg c.enc] H=some (.tuple [.islice (lv.map a0h) (some c.nodes.length),.int .i64 0],H,[]):=by obtain⟨r,⟨lv,h1,h2,hR,rfl⟩,h3⟩:=c95 c h;exact⟨lv,h1,h2,hR,λd H=>a04 (by kernel_rfl) (by kernel_rfl) rfl (a49 c) h3 rfl⟩
theorem c8o(c:Cir)(h:c.wf):sem L.env Mf 34 [.agg c.enc] []=some (.int .i64 0,[]):=by
 obtain⟨lv,_,_,_,hc⟩:=b3g c h;have hc:=hc false;simp only[Cir.enc]at hc⊢
 (refine sv Tryz.f34 ?_;simp only[Tryz.f34,gS])
 (repeat first|simp only[ww]|(apply xa;simp+decide only[go_sem,hc];rfl;kernel_rfl))
 (apply fqb;simp+decide only[go_sem]<;>rfl)
theorem b36{d:Bool}(H:a02)(c:Cir)(h:c.wf):a0a L.env d (sem L.env Mf) (.func (.func 34) [] []) [.agg c.enc] H=some (.int .i64 0,H,[]):=a04 (by kernel_rfl) (by kernel_rfl) rfl (a49 c) (c8o c h) rfl
theorem d3l(i:Int):sem L.env Mf 147 [.int .i64 i] []=some (.bool false,[]):=by
 (refine sv Tryz.f147 ?_;simp only[Tryz.f147,gS])
 (repeat first|simp only[ww]|(apply xa;simp+decide only[go_sem];rfl;kernel_rfl))
 (apply fqb;simp+decide only[go_sem]<;>rfl)
theorem c5m{d:Bool}(H:a02)(i:Int):a0a L.env d (sem L.env Mf) (.func (.func 147) [] []) [.int .i64 i] H=some (.bool false,H,[]):=a04 (by kernel_rfl) (by kernel_rfl) rfl rfl (d3l i) rfl
theorem c6a(a b:Nat):sem L.env Mf 104 [.int .i64 a,.int .i64 b] []=some (.int .i64 (d6l a b),[]):=by
 have hn:=λH i=>c5m (d:=false) H i;unfold d6l;by_cases h1:a<b
 ·have c1:(a:Int)<b:=by omega
  rw[if_pos h1]
  (refine sv Tryz.f104 ?_;simp only[Tryz.f104,gS])
  (repeat first|simp only[ww]|(apply xa;simp+decide only[go_sem,hn,c1];rfl;kernel_rfl))
  (apply fqb;simp+decide only[go_sem]<;>rfl)
 have c1:¬(a:Int)<b:=by omega
 rw[if_neg h1];by_cases h2:b<a
 ·have c2:(b:Int)<a:=by omega
  rw[if_pos h2]
  (refine sv Tryz.f104 ?_;simp only[Tryz.f104,gS])
  (repeat first|simp only[ww]|(apply xa;simp+decide only[go_sem,hn,c1,c2];rfl;kernel_rfl))
  (apply fqb;simp+decide only[go_sem]<;>rfl)
 ·have c2:¬(b:Int)<a:=by omega
  rw[if_neg h2]
  (refine sv Tryz.f104 ?_;simp only[Tryz.f104,gS])
  (repeat first|simp only[ww]|(apply xa;simp+decide only[go_sem,hn,c1,c2];rfl;kernel_rfl))
  (apply fqb;simp+decide only[go_sem]<;>rfl)
theorem c0d{d:Bool}(H:a02)(a b:Nat):a0a L.env d (sem L.env Mf) (.func (.func 104) [] []) [.int .i64 a,.int .i64 b] H=some (.int .i64 (d6l a b),H,[]):=a04 (by kernel_rfl) (by kernel_rfl) rfl rfl (c6a a b) rfl
def lvO(lv:List Nat):AObj:=.row 1 [[.islice (lv.map a0h) (some lv.length)]]
attribute [go_sem] lvO
theorem a4c(lv:List Nat):FlatR [[AV.islice (lv.map a0h) (some lv.length)]]:=FlatR.cons rfl FlatR.nil
theorem c8f(lv:List Nat)(x y vx vy:Nat)(hx:lv[x]?=some vx)(hy:lv[y]?=some vy):sem L.env Mf 103 [.int .i64 x,.int .i64 y,.ptr 0 0 0] [some (lvO lv)]=some (.int .i64 (d6l vx vy),[some (lvO lv)]):=by
 have hc:=λH=>c0d (d:=true) H vx vy;have h1:=(List.getElem?_eq_some_iff.1 hx).1;have h2:=(List.getElem?_eq_some_iff.1 hy).1
 (refine sv Tryz.f103 ?_;simp only[Tryz.f103,gS])
 (repeat first|simp only[ww]|(apply xa;simp+decide only[go_sem,hc,hx,hy,h1,h2];rfl;kernel_rfl))
 (apply fqb;simp+decide only[go_sem]<;>rfl)
theorem c1r{d:Bool}{H:a02}{b:Nat}(lv:List Nat)(x y vx vy:Nat)(hx:lv[x]?=some vx)(hy:lv[y]?=some vy)(hb:a01 H b=some (lvO lv)):a0a L.env d (sem L.env Mf) (.func (.func 103) [] [.ptr b 0 0]) [.int .i64 x,.int .i64 y] H=some (.int .i64 (d6l vx vy),H,[b]):=a30 (fs:=[]) (cs:=[.ptr b 0 0]) (ar:=[.int .i64 x,.int .i64 y]) (by kernel_rfl) (by kernel_rfl) rfl hb (a0m (a4c lv)) (FlatO.row (a4c lv)) rfl (args':=[.int .i64 x,.int .i64 y,.ptr 0 0 0]) (by simp[ren,a7n]) (c8f lv x y vx vy hx hy) rfl
def b2d:AV:=.func (.func 103) [] [.ptr 1 0 0]
def Srt(lv data:List Nat):Prop:=SortI (λv=>lv.getD v 0) data data.length
def JI0(lv d0:List Nat)(n:Nat)(F:Frm)(H:a02):Prop:=∃(i:Nat) (data:List Nat),n=d0.length-i∧1≤i∧
 F=[(0,.slice 0 0 d0.length (some d0.length)),(1,.int .i64 0),(2,.int .i64 d0.length),(3,b2d),(8,.int .i64 i)]∧H=[some (.row 1 (data.map a0h)),some (lvO lv)]∧data.Perm d0∧SortI (λv=>lv.getD v 0) data i
def JI2(lv d0:List Nat)(i:Nat)(n:Nat)(F:Frm)(H:a02):Prop:=∃(j:Nat) (data:List Nat),n=j∧j<d0.length∧
 F=[(0,.slice 0 0 d0.length (some d0.length)),(1,.int .i64 0),(2,.int .i64 d0.length),(3,b2d),(8,.int .i64 i),(9,.int .i64 j)]∧H=[some (.row 1 (data.map a0h)),some (lvO lv)]∧data.Perm d0∧j≤i∧SortJ (λv=>lv.getD v 0) data i j
theorem b9y(lv d0:List Nat)(hl:d0.length≤1000)(hd:∀v∈d0,v<lv.length):∃r:AV×a02,(∃data:List Nat,data.Perm d0∧Srt lv data∧r=(.tuple [],[some (.row 1 (data.map a0h)),some (lvO lv)]))∧
 sem L.env Mf 193 [.slice 0 0 d0.length (some d0.length),.int .i64 0,.int .i64 d0.length,b2d] [some (.row 1 (d0.map a0h)),some (lvO lv)]=some r:=by
 unfold b2d
 (refine svE Tryz.f193 ?_;simp only[Tryz.f193,gS])
 (repeat first|simp only[ww]|(apply xa;simp+decide only[go_sem];rfl;kernel_rfl))
 refine a4j kp193_0 (JI0 lv d0) (d0.length-1) ?_ ?_
 ·refine⟨_,_,?_,1,d0,rfl,Nat.le_refl _,rfl,rfl,List.Perm.refl _,SortI.one⟩;unfold b2d
  (simp+decide only[go_sem,a03,a00,a2q,a48]<;>rfl)<;>rfl
 ·rintro n F H ⟨i,data,rfl,hi1,rfl,rfl,hp,hS⟩
  unfold b2d;have hw:=wI1 (n:=i) ;by_cases hlt:i<d0.length
  ·have c1:(i:Int)<d0.length:=by omega
   have hw:=wI1 (n:=i) (by omega)
   (repeat first|simp only[ww]|(apply xa;simp+decide only[go_sem,c1];rfl;kernel_rfl))
   refine a4j kp193_2 (JI2 lv d0 i) i ?_ ?_
   ·refine⟨_,_,?_,i,data,rfl,hlt,rfl,rfl,hp,Nat.le_refl _,hS.start⟩;unfold b2d
    (simp+decide only[go_sem,a03,a00,a2q,a48]<;>rfl)<;>rfl
   ·rintro n F H ⟨j,data,rfl,hj,rfl,rfl,hp,hji,hS⟩
    unfold b2d;have hlen:=hp.length_eq;cases n with
    |zero=>
     (repeat first|simp only[ww]|(apply xa;simp+decide only[go_sem];rfl;kernel_rfl))
     refine a1j (d0.length-(i+1)) (by omega) ⟨_,_,?_,i+1,data,rfl,by omega,rfl,rfl,hp,hS.stop (.inl rfl)⟩;unfold b2d
     (simp+decide only[go_sem,a03,a00,a2q,a48,hw]<;>rfl)<;>rfl
    |succ j=>
     obtain⟨x,hx⟩:∃x,data[j+1]?=some x:=⟨_,z9e (by omega)⟩
     obtain⟨y,hy⟩:∃y,data[j]?=some y:=⟨_,z9e (by omega)⟩
     obtain⟨vx,hvx⟩:∃v,lv[x]?=some v:=⟨_,z9e (hd x (hp.mem_iff.1 (List.mem_of_getElem? hx)))⟩
     obtain⟨vy,hvy⟩:∃v,lv[y]?=some v:=⟨_,z9e (hd y (hp.mem_iff.1 (List.mem_of_getElem? hy)))⟩
     have c0:(0:Int)<((j+1:Nat):Int):=by omega
     have hj1:j<d0.length:=by omega
     have hj2:j+1<data.length:=by omega
     have hj3:j<data.length:=by omega
     have hsub:IntKind.i64.wrap (((j+1:Nat):Int)-1)=(j:Int):=by rw[w64 (by omega) (by omega)];omega
     have hcall:=c1r (d:=true) (H:=[some (.row 1 (data.map a0h)),some (lvO lv)]) (b:=1) lv x y vx vy hvx hvy rfl;simp only[lvO]at hcall;have kx:lv.getD x 0=vx:=by rw[List.getD,hvx];rfl
     have ky:lv.getD y 0=vy:=by rw[List.getD,hvy];rfl
     by_cases hlt2:d6l vx vy<0
     ·have hs1:(((data.map a0h).set (j+1) [AV.int .i64 y]).set j [AV.int .i64 x])=((data.set (j+1) y).set j x).map a0h:=by rw[List.map_set,List.map_set];rfl
      have hg2:((data.map a0h).set (j+1) [AV.int .i64 y])[j]?=some [AV.int .i64 y]:=by rw[List.getElem?_set_ne (by omega),List.getElem?_map,hy];rfl
      (repeat first|simp only[ww]|(apply xa;simp+decide only[go_sem,c0,hj,hj1,hj2,hj3,hx,hy,hsub,hcall,hlt2,hlen,List.length_set,hs1,hg2];rfl;kernel_rfl))
      refine a1j j (by omega) ⟨_,_,?_,j,_,rfl,hj1,rfl,rfl,(c7a hx hy).trans hp,by omega,hS.swap hji hy hx (by show lv.getD x 0<lv.getD y 0;rw[kx,ky];unfold d6l at hlt2;split at hlt2<;>first|assumption|(exfalso;split at hlt2<;>omega))⟩;unfold b2d
      (simp+decide only[go_sem,a03,a00,a2q,a48,hs1]<;>rfl)<;>rfl
     ·(repeat first|simp only[ww]|(apply xa;simp+decide only[go_sem,c0,hj,hj1,hj2,hj3,hx,hy,hsub,hcall,hlt2,hlen];rfl;kernel_rfl))
      refine a1j (d0.length-(i+1)) (by omega) ⟨_,_,?_,i+1,data,rfl,by omega,rfl,rfl,hp,hS.stop (.inr ⟨y,x,hy,hx,by show lv.getD y 0≤lv.getD x 0;rw[kx,ky];unfold d6l at hlt2;split at hlt2<;>omega⟩)⟩;unfold b2d
      (simp+decide only[go_sem,a03,a00,a2q,a48,hw]<;>rfl)<;>rfl
  ·have c1:¬(i:Int)<d0.length:=by omega
   (repeat first|simp only[ww]|(apply xa;simp+decide only[go_sem,c1];rfl;kernel_rfl))
   refine b83 (vs:=[]) (r:=(_,[_,_])) (by simp+decide only[go_sem]) ?_ ⟨data,hp,λp q x y h1 h2=>hS p q x y h1 (by have:=hp.length_eq;omega),rfl⟩;simp+decide only[go_sem,a48]<;>rfl
def d2e(b:Nat):AV:=.func (.func 103) [] [.ptr b 0 0]
theorem a3f(l:List Nat):FlatR (l.map a0h):=FlatR.map λ_=>rfl
theorem b4y(lv d0:List Nat)(hl:d0.length≤1000)(hd:∀v∈d0,v<lv.length):∃data:List Nat,data.Perm d0∧Srt lv data∧
 a0a L.env false (sem L.env Mf) (.func (.func 193) [] []) [.slice 0 0 d0.length (some d0.length),.int .i64 0,.int .i64 d0.length,b2d] [some (.row 1 (d0.map a0h)),some (lvO lv)]=some (.tuple [],[some (.row 1 (data.map a0h)),some (lvO lv)],[0,1]):=by
 obtain⟨r,⟨data,hp,hS,rfl⟩,h⟩:=b9y lv d0 hl hd;refine⟨data,hp,hS,?_⟩;exact b4f (a:=0) (b:=1) (fs:=[]) (cs:=[]) (ar:=[.slice 0 0 d0.length (some d0.length),.int .i64 0,.int .i64 d0.length,b2d]) (H:=[some (.row 1 (d0.map a0h)),some (lvO lv)]) (by kernel_rfl) (by kernel_rfl) rfl (by decide) rfl rfl (a0m (a3f d0)) (a0m (a4c lv)) (FlatO.row (a3f d0)) (FlatO.row (a4c lv)) rfl rfl h (FlatO.row (a3f data)) (FlatO.row (a4c lv)) rfl
theorem c7m(lv d0:List Nat)(hl:d0.length≤19)(hd:∀v∈d0,v<lv.length):∃r:AV×a02,(∃data:List Nat,data.Perm d0∧Srt lv data∧r=(.tuple [],[some (.row 1 (data.map a0h)),some (lvO lv)]))∧
 sem L.env Mf 146 [.slice 0 0 d0.length (some d0.length),.int .i64 d0.length,b2d] [some (.row 1 (d0.map a0h)),some (lvO lv)]=some r:=by
 obtain⟨data,hp,hS,hc⟩:=b4y lv d0 (by omega) hd;have c1:¬(20:Int)≤d0.length:=by omega
 have c2:¬(20:Int)<d0.length:=by omega
 unfold b2d at hc⊢;simp only[lvO]at hc⊢
 (refine svE Tryz.f146 ?_;simp only[Tryz.f146,gS])
 (repeat first|simp only[ww]|(apply xa;simp+decide only[go_sem,c1];rfl;kernel_rfl))
 refine a0p (σ:=Nat) kp146_0 (λi=>[(0,.slice 0 0 d0.length (some d0.length)),(1,.int .i64 d0.length),(2,b2d),(6,.int .i64 20),(7,.int .i64 0),(8,.int .i64 20)])
  (λi=>[some (.row 1 (d0.map a0h)),some (.row 1 [[.islice (lv.map a0h) (some lv.length)]])]) (λi=>0) (λi=>True) 0 ?_ trivial ?_
 ·unfold b2d
  (simp+decide only[go_sem,a03,a00,a2q,a48]<;>rfl)<;>rfl
 ·intro i _;unfold b2d
  (repeat first|simp only[ww]|(apply xa;simp+decide only[go_sem,c1,hc];rfl;kernel_rfl))
  refine a0p (σ:=Nat) kp146_2 (λi=>[(0,.slice 0 0 d0.length (some d0.length)),(1,.int .i64 d0.length),(2,b2d),(6,.int .i64 20)])
   (λi=>[some (.row 1 (data.map a0h)),some (.row 1 [[.islice (lv.map a0h) (some lv.length)]])]) (λi=>0) (λi=>True) 0 ?_ trivial ?_
  ·unfold b2d
   (simp+decide only[go_sem,a03,a00,a2q,a48]<;>rfl)<;>rfl
  ·intro i _;unfold b2d
   (repeat first|simp only[ww]|(apply xa;simp+decide only[go_sem,c2];rfl;kernel_rfl))
   refine b83 (vs:=[]) (r:=(_,[_,_])) (by simp+decide only[go_sem]) ?_ ⟨data,hp,hS,rfl⟩;simp+decide only[go_sem,a48]<;>rfl
theorem b72(lv d0:List Nat)(hl:d0.length≤19)(hd:∀v∈d0,v<lv.length):∃r:AV×a02,(∃data:List Nat,data.Perm d0∧Srt lv data∧r=(.tuple [],[some (.row 1 (data.map a0h)),some (lvO lv)]))∧
 sem L.env Mf 102 [.slice 0 0 d0.length (some d0.length),b2d] [some (.row 1 (d0.map a0h)),some (lvO lv)]=some r:=by
 obtain⟨r,⟨data,hp,hS,rfl⟩,h⟩:=c7m lv d0 hl hd;have hc:=b4f (E:=L.env) (draw:=false) (call:=sem L.env Mf) (g:=146) (a:=0) (b:=1) (fs:=[]) (cs:=[]) (ar:=[.slice 0 0 d0.length (some d0.length),.int .i64 d0.length,b2d]) (H:=[some (.row 1 (d0.map a0h)),some (lvO lv)]) (v':=.tuple []) (by kernel_rfl) (by kernel_rfl) rfl (by decide) rfl rfl (a0m (a3f d0)) (a0m (a4c lv)) (FlatO.row (a3f d0)) (FlatO.row (a4c lv)) rfl rfl h (FlatO.row (a3f data)) (FlatO.row (a4c lv)) rfl;unfold b2d at hc⊢;simp only[lvO]at hc⊢
 (refine svE Tryz.f102 ?_;simp only[Tryz.f102,gS])
 (repeat first|simp only[ww]|(apply xa;simp+decide only[go_sem,hc];rfl;kernel_rfl))
 refine b83 (vs:=[]) (r:=(_,[_,_])) (by simp+decide only[go_sem]) ?_ ⟨data,hp,hS,rfl⟩;simp+decide only[go_sem,a48]<;>rfl
theorem b2n(lv d0:List Nat)(hl:d0.length≤19)(hd:∀v∈d0,v<lv.length):∃data:List Nat,data.Perm d0∧Srt lv data∧∀(d:Bool) (H:a02) (a b:Nat),a≠b→a01 H a=some (.row 1 (d0.map a0h))→a01 H b=some (lvO lv)→
 a0a L.env d (sem L.env Mf) (.func (.func 102) [] []) [.slice a 0 d0.length (some d0.length),d2e b] H=some (.tuple [],(H.set a (some (.row 1 (data.map a0h)))).set b (some (lvO lv)),[a,b]):=by
 obtain⟨r,⟨data,hp,hS,rfl⟩,h⟩:=b72 lv d0 hl hd;refine⟨data,hp,hS,λd H a b hab ha hb=>?_⟩;exact b4f (a:=a) (b:=b) (fs:=[]) (cs:=[]) (ar:=[.slice a 0 d0.length (some d0.length),d2e b]) (H:=H) (by kernel_rfl) (by kernel_rfl) rfl hab ha hb (a0m (a3f d0)) (a0m (a4c lv)) (FlatO.row (a3f d0)) (FlatO.row (a4c lv)) rfl
  (by simp only[List.nil_append,List.append_nil,List.map_cons,List.map_nil,c1n,d2e,d2o,c80 hab];rfl) h (FlatO.row (a3f data)) (FlatO.row (a4c lv)) rfl
theorem d2w(c:Cir)(h:c.wf):∃r:AV×a02,(∃ord:List Nat,ord.Perm (List.range c.nodes.length)∧e4q c.nodes ord∧r=(.tuple [.islice (ord.map a0h) (some c.nodes.length),.int .i64 0],[]))∧sem L.env Mf 58 [.agg c.enc] []=some r:=by
 have hn:=h.len;obtain⟨lv,hlv,hlb,hR,hc⟩:=b3g c h;have hc:=hc false;have hrm:c.nodes.length≤1000000000:=by omega
 obtain⟨data,hp,hS,hs⟩:=b2n lv (List.range c.nodes.length) (by simp;omega) (λv hv=>by rw[hlv];simpa using hv);have hdl:data.length=c.nodes.length:=by rw[hp.length_eq];simp
 rw[List.length_range]at hs;simp only[Cir.enc]at hc⊢
 (refine svE Tryz.f58 ?_;simp only[Tryz.f58,gS])
 (repeat first|simp only[ww]|(apply xa;simp+decide only[go_sem,hc,hrm];rfl;kernel_rfl))
 refine a0p (σ:=Nat) kp58_0 (λi=>[(4,.ptr 0 0 0),(6,.slice 1 0 c.nodes.length (some c.nodes.length)),(21,.int .i64 c.nodes.length),(22,.int .i64 i)])
  (λi=>[some (lvO lv),some (.row 1 ((List.range i++List.replicate (c.nodes.length-i) 0).map a0h))]) (λi=>c.nodes.length-i) (λi=>i≤c.nodes.length) 0 ?_ (Nat.zero_le _) ?_
 ·rw[lvO,hlv]
  (simp+decide only[go_sem,a03,a00,e9r,a2q,a48,List.range_zero,List.nil_append,Nat.sub_zero]<;>rfl)<;>rfl
 ·intro i hi;rw[lvO];by_cases hlt:i<c.nodes.length
  ·have c1:(i:Int)<c.nodes.length:=by omega
   have hw:=wI1 (n:=i) (by omega);have hln:(List.range i++List.replicate (c.nodes.length-i) 0).length=c.nodes.length:=by simp;omega
   have hg:(List.range i++List.replicate (c.nodes.length-i) 0)[i]?=some 0:=by rw[List.getElem?_append_right (by simp),List.length_range,Nat.sub_self,List.getElem?_replicate,if_pos (by omega)]
   have hst:((List.range i++List.replicate (c.nodes.length-i) 0).map a0h).set i [AV.int .i64 i]=(List.range (i+1)++List.replicate (c.nodes.length-(i+1)) 0).map a0h:=by
    have e:c.nodes.length-i=(c.nodes.length-(i+1))+1:=by omega
    rw[e,List.replicate_succ];rw[show [AV.int IntKind.i64 (i:Int)]=a0h i from rfl,←List.map_set,List.set_append_right _ _ (by simp),List.range_succ,List.append_assoc];simp
   generalize hA:(List.range i++List.replicate (c.nodes.length-i) 0)=A at hln hg hst
   (repeat first|simp only[ww]|(apply xa;simp+decide only[go_sem,c1,hlt,hw,hln,hg,hst];rfl;kernel_rfl))
   refine a27 (i+1) ?_ (by omega) (by omega)
   (simp+decide only[go_sem,a03,a00,a2q,a48]<;>rfl)<;>rfl
  ·obtain rfl:i=c.nodes.length:=by omega
   have c1:¬(c.nodes.length:Int)<c.nodes.length:=by omega
   rw[Nat.sub_self,List.replicate_zero,List.append_nil];have hs2:=hs false [some (lvO lv),some (.row 1 ((List.range c.nodes.length).map a0h))] 1 0 (by decide) rfl rfl;simp only[lvO,d2e]at hs2
   (repeat first|simp only[ww]|(apply xa;simp+decide only[go_sem,c1,hs2];rfl;kernel_rfl))
   refine a2v (vs:=[.slice 1 0 c.nodes.length (some c.nodes.length),.int .i64 0]) (r:=(_,[])) (by simp+decide only[go_sem]) ?_ ⟨data,hp,hR.topo hp hS.pairwise h.inAt,rfl⟩;show a26 false 0 (.tuple [.slice 1 0 c.nodes.length (some c.nodes.length),.int .i64 0]) _=_;rw[←hdl];simp+decide only[go_sem,d93]
theorem c5a(c:Cir)(h:c.wf):∃ord:List Nat,ord.Perm (List.range c.nodes.length)∧e4q c.nodes ord∧∀(d:Bool) (H:a02),a0a L.env d (sem L.env Mf) (.func (.func 58) [] []) [.agg c.enc] H=some (.tuple [.islice (ord.map a0h) (some c.nodes.length),.int .i64 0],H,[]):=by obtain⟨r,⟨ord,h1,h2,rfl⟩,h3⟩:=d2w c h;exact⟨ord,h1,h2,λd H=>a04 (by kernel_rfl) (by kernel_rfl) rfl (a49 c) h3 rfl⟩
theorem d06(c:Cir)(h:c.wf):sem L.env Mf 52 [.agg c.enc] []=some (.int .i64 0,[]):=by
 have hc:=λH=>b36 (d:=false) H c h;simp only[Cir.enc]at hc⊢
 (refine sv Tryz.f52 ?_;simp only[Tryz.f52,gS])
 (repeat first|simp only[ww]|(apply xa;simp+decide only[go_sem,hc];rfl;kernel_rfl))
 (apply fqb;simp+decide only[go_sem]<;>rfl)
theorem c2a{d:Bool}(H:a02)(c:Cir)(h:c.wf):a0a L.env d (sem L.env Mf) (.func (.func 52) [] []) [.agg c.enc] H=some (.int .i64 0,H,[]):=a04 (by kernel_rfl) (by kernel_rfl) rfl (a49 c) (d06 c h) rfl
theorem d4a(c:Cir)(h:c.wf)(n:Nat)(p:Int)(hn:n<c.nodes.length)(hp:-1≤p)(hp2:p<(a2k c.nodes n).length):sem L.env Mf 53 [.agg c.enc,.agg [.int .i64 n,.int .i64 p]] []=some (.bool true,[]):=by
 obtain⟨x,hx⟩:∃x,c.nodes[n]?=some x:=⟨_,z9e hn⟩
 rw[a22 hx]at hp2;have c1:0≤(n:Int):=by omega
 have c2:(n:Int)<c.nodes.length:=by omega
 simp only[Cir.enc]
 (refine sv Tryz.f53 ?_;simp only[Tryz.f53,gS])
 (repeat first|simp only[ww]|(apply xa;simp+decide only[go_sem,c1,c2,hn,hp,hp2,hx];rfl;kernel_rfl))
 (apply fqb;simp+decide only[go_sem]<;>rfl)
theorem c5x{d:Bool}(H:a02)(c:Cir)(h:c.wf)(n:Nat)(p:Int)(hn:n<c.nodes.length)(hp:-1≤p)(hp2:p<(a2k c.nodes n).length):a0a L.env d (sem L.env Mf) (.func (.func 53) [] []) [.agg c.enc,.agg [.int .i64 n,.int .i64 p]] H=some (.bool true,H,[]):=a04 (by kernel_rfl) (by kernel_rfl) rfl (by simp only[a07,a0s,Cir.enc,go_sem]) (d4a c h n p hn hp hp2) rfl
/- dependence, by the statements -/
theorem c61(c:Cir)(h:c.wf)(b:Nat)(hb:b<c.nodes.length):∀(k depth a:Nat),c.nodes.length+1≤depth+k→a<c.nodes.length→depth≤100→
 ∃q:Bool,(depth+a≤c.nodes.length→DepOn c.nodes a b→q=true)∧sem L.env Mf 99 [.agg c.enc,.int .i64 a,.int .i64 b,.int .i64 depth] []=some (.bool q,[]):=by
 intro k
 induction k with
 |zero=>
  intro depth a hk ha hd;have hl:=h.len;by_cases hab:a=b
  ·subst hab;refine⟨true,λ_ _=>rfl,?_⟩;simp only[Cir.enc]
   (refine sv Tryz.f99 ?_;simp only[Tryz.f99,gS])
   (repeat first|simp only[ww]|(apply xa;simp+decide only[go_sem];rfl;kernel_rfl))
   (apply fqb;simp+decide only[go_sem]<;>rfl)
  ·refine⟨false,λh1 _=>by omega,?_⟩;have c1:¬(a:Int)=b:=by omega
   have c2:(c.nodes.length:Int)<depth:=by omega
   simp only[Cir.enc]
   (refine sv Tryz.f99 ?_;simp only[Tryz.f99,gS])
   (repeat first|simp only[ww]|(apply xa;simp+decide only[go_sem,c1,c2];rfl;kernel_rfl))
   (apply fqb;simp+decide only[go_sem]<;>rfl)
 |succ k ih=>
  intro depth a hk ha hd;have hl:=h.len;by_cases hab:a=b
  ·subst hab;refine⟨true,λ_ _=>rfl,?_⟩;simp only[Cir.enc]
   (refine sv Tryz.f99 ?_;simp only[Tryz.f99,gS])
   (repeat first|simp only[ww]|(apply xa;simp+decide only[go_sem];rfl;kernel_rfl))
   (apply fqb;simp+decide only[go_sem]<;>rfl)
  have c1:¬(a:Int)=b:=by omega
  by_cases hdl:c.nodes.length<depth
  ·refine⟨false,λh1 _=>by omega,?_⟩;have c2:(c.nodes.length:Int)<depth:=by omega
   simp only[Cir.enc]
   (refine sv Tryz.f99 ?_;simp only[Tryz.f99,gS])
   (repeat first|simp only[ww]|(apply xa;simp+decide only[go_sem,c1,c2];rfl;kernel_rfl))
   (apply fqb;simp+decide only[go_sem]<;>rfl)
  have c2:¬(c.nodes.length:Int)<depth:=by omega
  obtain⟨x,hx⟩:∃x,c.nodes[a]?=some x:=⟨_,z9e ha⟩
  by_cases h14:x.kind=14
  ·refine⟨false,λ_ hr=>absurd hr (DepOn.not_dff hab (by rw[a1e hx];exact h14)),?_⟩;have c3:decide ((x.kind:Int)=14)=true:=decide_eq_true (by omega);simp only[Cir.enc]
   (refine sv Tryz.f99 ?_;simp only[Tryz.f99,gS])
   (repeat first|simp only[ww]|(apply xa;simp+decide only[go_sem,c1,c2,hx,ha,c3];rfl;kernel_rfl))
   (apply fqb;simp+decide only[go_sem]<;>rfl)
  have c3:¬(x.kind:Int)=14:=by omega
  have hxm:=List.mem_of_getElem? hx;have hil:=h.insl hxm;have hwd:=wI1 (n:=depth) (by omega)
  suffices hs:∃r:AV×a02,(∃q:Bool,(depth+a≤c.nodes.length→DepOn c.nodes a b→q=true)∧r=(.bool q,[]))∧sem L.env Mf 99 [.agg c.enc,.int .i64 a,.int .i64 b,.int .i64 depth] []=some r by obtain⟨r,⟨q,h1,rfl⟩,h2⟩:=hs;exact⟨q,h1,h2⟩
  simp only[Cir.enc]at ih⊢
  (refine svE Tryz.f99 ?_;simp only[Tryz.f99,gS])
  (repeat first|simp only[ww]|(apply xa;simp+decide only[go_sem,c1,c2,hx,ha,c3];rfl;kernel_rfl))
  refine a4j kp99_0 (λn F H=>∃i,n=x.ins.length-i∧i≤x.ins.length∧F=[(1,.int .i64 a),(2,.int .i64 b),(3,.int .i64 depth),(4,.ptr 0 0 0),(9,.int .i64 i)]∧
   H=[some (.row 4 [[sl c.nc (c.nodes.map Nd.enc),sl c.mc (c.names.map a1h),.nilslice,sl c.oc (c.outs.map a0h)]])]∧(depth+a≤c.nodes.length→∀m∈x.ins.take i,¬DepOn c.nodes m b)) (x.ins.length-0) ?_ ?_
  ·refine⟨_,_,?_,0,rfl,Nat.zero_le _,rfl,rfl,by simp⟩
   (simp+decide only[go_sem,a03,a00]<;>rfl)<;>rfl
  ·rintro n F H ⟨i,rfl,hi,rfl,rfl,hno⟩
   by_cases hlt:i<x.ins.length
   ·obtain⟨m,hm⟩:∃m,x.ins[i]?=some m:=⟨_,z9e hlt⟩
    have hmn:=h.ins x hxm m (List.mem_of_getElem? hm);have c4:(i:Int)<x.ins.length:=by omega
    have hw:=wI1 (n:=i) (by omega);obtain⟨q,hq1,hq2⟩:=ih (depth+1) m (by omega) hmn (by omega);have hcall:=λH=>a04 (E:=L.env) (draw:=true) (call:=sem L.env Mf) (g:=99) (fs:=[]) (cs:=[]) (ar:=[.agg [sl c.nc (c.nodes.map Nd.enc),sl c.mc (c.names.map a1h),.nilslice,sl c.oc (c.outs.map a0h)],.int .i64 m,.int .i64 b,.int .i64 (depth+1:Nat)]) (H:=H) (by kernel_rfl) (by kernel_rfl) rfl (by simp only[List.nil_append,List.append_nil,a07,a0s,go_sem]) hq2 rfl;have hma:depth+a≤c.nodes.length→depth+1+m≤c.nodes.length:=by intro hda;have:=h.acyc a x hx (h.comb_of hxm (by omega) h14) m (List.mem_of_getElem? hm);omega
    cases q with
    |true=>
     (repeat first|simp only[ww]|(apply xa;simp+decide only[go_sem,c4,hlt,hx,ha,hm,hw,hwd,hcall];rfl;kernel_rfl))
     refine a2v (vs:=[.bool true]) (r:=(_,[])) (by simp+decide only[go_sem]) ?_ ⟨true,λ_ _=>rfl,rfl⟩;simp+decide only[go_sem]
    |false=>
     have hr:depth+a≤c.nodes.length→¬DepOn c.nodes m b:=λhda hr=>by have:=hq1 (hma hda) hr;cases this
     (repeat first|simp only[ww]|(apply xa;simp+decide only[go_sem,c4,hlt,hx,ha,hm,hw,hwd,hcall];rfl;kernel_rfl))
     refine a1j (x.ins.length-(i+1)) (by omega) ⟨_,_,?_,i+1,rfl,hlt,rfl,rfl,?_⟩
     ·(simp+decide only[go_sem,a03,a00]<;>rfl)<;>rfl
     ·intro hda m' hm';rw[a1g hm,List.mem_append]at hm';rcases hm' with hm'|hm'
      ·exact hno hda m' hm'
      ·simp only[List.mem_singleton]at hm';subst hm';exact hr hda
   ·obtain rfl:i=x.ins.length:=by omega
    have c4:¬(x.ins.length:Int)<x.ins.length:=by omega
    (repeat first|simp only[ww]|(apply xa;simp+decide only[go_sem,c4,hx,ha];rfl;kernel_rfl))
    refine a2v (vs:=[.bool false]) (r:=(_,[])) (by simp+decide only[go_sem]) ?_ ⟨false,?_,rfl⟩
    ·simp+decide only[go_sem]
    ·intro hda hr;rw[List.take_length]at hno;rcases hr.cases with e|⟨_,m,hm,hr⟩
     ·exact absurd e hab
     ·rw[a22 hx]at hm;exact absurd hr (hno hda m hm)
set_option maxHeartbeats 200000000
attribute [go_sem] Flt.enc
theorem b1m(c:Cir)(h:c.wf)(a b:Nat)(ha:a<c.nodes.length)(hb:b<c.nodes.length):∃q:Bool,(DepOn c.nodes a b→q=true)∧∀(d:Bool) (H:a02),a0a L.env d (sem L.env Mf) (.func (.func 99) [] []) [.agg c.enc,.int .i64 a,.int .i64 b,.int .i64 0] H=some (.bool q,H,[]):=by have hn:=h.len;obtain⟨q,h1,h2⟩:=c61 c h b hb (c.nodes.length+1) 0 a (by omega) ha (by omega);exact⟨q,λhr=>h1 (by omega) hr,λd H=>a04 (by kernel_rfl) (by kernel_rfl) rfl (by simp only[a07,a0s,Cir.enc,go_sem]) h2 rfl⟩
/- the statements' own check of a bridge -/
structure Cand(nodes:List Nd)(f:Flt):Prop where
 model:f.model=2∨f.model=3
 node:f.node<nodes.length
 pin:f.pin = -1
 value:f.value≤1
 other:f.other<nodes.length
 wired:f.model=2→f.node≤f.other
 strong:f.model=3→f.value=0
theorem c98(c:Cir)(h:c.wf)(f:Flt)(hf:Cand c.nodes f):∃e:Nat,(e=0→FltOk c.nodes f)∧sem L.env Mf 51 [.agg c.enc,.agg f.enc] []=some (.int .i64 e,[]):=by
 obtain⟨x,hx⟩:∃x,c.nodes[f.node]?=some x:=⟨_,z9e hf.node⟩
 obtain⟨y,hy⟩:∃y,c.nodes[f.other]?=some y:=⟨_,z9e hf.other⟩
 have hval:=hf.value;have hpin:=hf.pin;have hn1:=hf.node;have hn2:=hf.other;have c0:¬(1:Int)<f.value:=by omega
 have c1:¬(f.node:Int)<0:=by omega
 have c2:¬(c.nodes.length:Int)≤f.node:=by omega
 have c3:¬(x.ins.length:Int)≤ -1:=by omega
 have c4:¬(f.other:Int)<0:=by omega
 have c5:¬(c.nodes.length:Int)≤f.other:=by omega
 have e1:¬((-1:Int) < -1):=by omega
 by_cases hno:f.node=f.other
 ·have c6:decide ((f.node:Int)=f.other)=true:=decide_eq_true (by omega);refine⟨1,by omega,?_⟩;simp only[Cir.enc,Flt.enc,hpin];rcases hf.model with e|e
  ·rw[e]
   (refine sv Tryz.f51 ?_;simp only[Tryz.f51,gS])
   (repeat first|simp only[ww]|(apply xa;simp+decide only[go_sem,c0,c1,c2,c3,c4,c5,c6,hx,hy,hn1,hn2,e1];rfl;kernel_rfl))
   (apply fqb;simp+decide only[go_sem]<;>rfl)
  ·rw[e]
   (refine sv Tryz.f51 ?_;simp only[Tryz.f51,gS])
   (repeat first|simp only[ww]|(apply xa;simp+decide only[go_sem,c0,c1,c2,c3,c4,c5,c6,hx,hy,hn1,hn2,e1];rfl;kernel_rfl))
   (apply fqb;simp+decide only[go_sem]<;>rfl)
 have c6:¬(f.node:Int)=f.other:=by omega
 by_cases k1:x.kind=12∨y.kind=12
 ·refine⟨7,by omega,?_⟩;simp only[Cir.enc,Flt.enc,hpin];by_cases kx:x.kind=12
  ·have c7:decide ((x.kind:Int)=12)=true:=decide_eq_true (by omega);rcases hf.model with e|e
   ·have c9:¬(f.other:Int)<f.node:=by have:=hf.wired e;omega
    rw[e]
    (refine sv Tryz.f51 ?_;simp only[Tryz.f51,gS])
    (repeat first|simp only[ww]|(apply xa;simp+decide only[go_sem,c0,c1,c2,c3,c4,c5,c6,c7,c9,hx,hy,hn1,hn2,e1];rfl;kernel_rfl))
    (apply fqb;simp+decide only[go_sem]<;>rfl)
   ·have hv:=hf.strong e;rw[e,hv]
    (refine sv Tryz.f51 ?_;simp only[Tryz.f51,gS])
    (repeat first|simp only[ww]|(apply xa;simp+decide only[go_sem,c0,c1,c2,c3,c4,c5,c6,c7,hx,hy,hn1,hn2,e1];rfl;kernel_rfl))
    (apply fqb;simp+decide only[go_sem]<;>rfl)
  ·have c7:¬(x.kind:Int)=12:=by omega
   have c8:decide ((y.kind:Int)=12)=true:=decide_eq_true (by omega);rcases hf.model with e|e
   ·have c9:¬(f.other:Int)<f.node:=by have:=hf.wired e;omega
    rw[e]
    (refine sv Tryz.f51 ?_;simp only[Tryz.f51,gS])
    (repeat first|simp only[ww]|(apply xa;simp+decide only[go_sem,c0,c1,c2,c3,c4,c5,c6,c7,c8,c9,hx,hy,hn1,hn2,e1];rfl;kernel_rfl))
    (apply fqb;simp+decide only[go_sem]<;>rfl)
   ·have hv:=hf.strong e;rw[e,hv]
    (refine sv Tryz.f51 ?_;simp only[Tryz.f51,gS])
    (repeat first|simp only[ww]|(apply xa;simp+decide only[go_sem,c0,c1,c2,c3,c4,c5,c6,c7,c8,hx,hy,hn1,hn2,e1];rfl;kernel_rfl))
    (apply fqb;simp+decide only[go_sem]<;>rfl)
 have kx:¬x.kind=12:=λe=>k1 (.inl e);have ky:¬y.kind=12:=λe=>k1 (.inr e);have c7:¬(x.kind:Int)=12:=by omega
 have c8:¬(y.kind:Int)=12:=by omega
 obtain⟨q1,r1,d1⟩:=b1m c h f.node f.other hn1 hn2;obtain⟨q2,r2,d2⟩:=b1m c h f.other f.node hn2 hn1;have d1:=d1 false;have d2:=d2 false;simp only[Cir.enc]at d1 d2;have hfin:q1=false→q2=false→FltOk c.nodes f:=by
  rintro rfl rfl
  refine⟨.inr hf.model,hn1,by omega,hval,hn2,λe=>by rcases hf.model with e2|e2<;>omega,λ_=>⟨hpin,hno,hf.wired,hf.strong,by rw[a1e hx];exact kx,by rw[a1e hy];exact ky,λhr=>absurd (r1 hr) (by decide),λhr=>absurd (r2 hr) (by decide)⟩⟩
 refine⟨if q1||q2 then 6 else 0,?_,?_⟩
 ·intro e;cases q1<;>cases q2<;>first|exact hfin rfl rfl|(simp at e)
 ·simp only[Cir.enc,Flt.enc,hpin];rcases hf.model with e|e
  ·have c9:¬(f.other:Int)<f.node:=by have:=hf.wired e;omega
   rw[e];cases q1<;>cases q2
   all_goals
    (refine sv Tryz.f51 ?_;simp only[Tryz.f51,gS])
    (repeat first|simp only[ww]|(apply xa;simp+decide only[go_sem,c0,c1,c2,c3,c4,c5,c6,c7,c8,c9,hx,hy,hn1,hn2,e1,d1,d2];rfl;kernel_rfl))
    (apply fqb;simp+decide only[go_sem]<;>rfl)
  ·have hv:=hf.strong e;rw[e,hv];cases q1<;>cases q2
   all_goals
    (refine sv Tryz.f51 ?_;simp only[Tryz.f51,gS])
    (repeat first|simp only[ww]|(apply xa;simp+decide only[go_sem,c0,c1,c2,c3,c4,c5,c6,c7,c8,hx,hy,hn1,hn2,e1,d1,d2];rfl;kernel_rfl))
    (apply fqb;simp+decide only[go_sem]<;>rfl)
theorem a4p(c:Cir)(h:c.wf)(f:Flt)(hf:Cand c.nodes f):∃e:Nat,(e=0→FltOk c.nodes f)∧∀(d:Bool) (H:a02),a0a L.env d (sem L.env Mf) (.func (.func 51) [] []) [.agg c.enc,.agg f.enc] H=some (.int .i64 e,H,[]):=by obtain⟨e,h1,h2⟩:=c98 c h f hf;exact⟨e,h1,λd H=>a04 (by kernel_rfl) (by kernel_rfl) rfl (by simp only[a07,a0s,Cir.enc,go_sem]) h2 rfl⟩
structure FX where
 model:Nat
 node:Nat
 pin:Nat
 other:Nat
 one:Bool
def FX.enc(f:FX):List AV:=[.int .u8 f.model,.int .u8 f.node,.int .u8 f.pin,.int .u8 f.other,.bool f.one]
structure FX.ok(f:FX):Prop where
 model:f.model<256
 node:f.node<256
 pin:f.pin<256
 other:f.other<256
attribute [go_sem] FX.enc
theorem a6d{nodes:List Nd}{a p v:Nat}{x:Nd}(hx:nodes[a]?=some x)(hv:v≤1):FltOk nodes ⟨0,a,((p%(x.ins.length+1):Nat):Int)-1,v,0⟩:=by have ha:=(List.getElem?_eq_some_iff.1 hx).1;have hp:=Nat.mod_lt p (show 0<x.ins.length+1 by omega);refine⟨.inl rfl,ha,?_,hv,by show 0<nodes.length;omega,λ_=>rfl,λh=>absurd rfl h⟩;show -1≤((p%(x.ins.length+1):Nat):Int)-1∧((p%(x.ins.length+1):Nat):Int)-1<(a2k nodes a).length;rw[a22 hx];generalize p%(x.ins.length+1)=q at hp⊢;omega
theorem e40(c:Cir)(h:c.wf)(f:FX)(hf:f.ok)(hm:f.model%4≠1):∃r:AV×a02,(∃g,FltOk c.nodes g∧r=(.agg g.enc,[]))∧sem L.env Mf 20 [.agg f.enc,.agg c.enc] []=some r:=by
 obtain⟨f1,f2,f3,f4⟩:=hf;have hn:=h.len;have hp:=h.pos;have c0:¬(c.nodes.length:Int)=0:=by omega
 have hnd:f.node%c.nodes.length<c.nodes.length:=Nat.mod_lt _ hp;have hot:f.other%c.nodes.length<c.nodes.length:=Nat.mod_lt _ hp;have w1:=wB (n:=f.model%4) (by omega);have w2:=wI (n:=f.node) (by omega);have w3:=wI (n:=f.node%c.nodes.length) (by omega);have w4:=wI (n:=f.other) (by omega);have w5:=wI (n:=f.other%c.nodes.length) (by omega);have w6:=wI (n:=f.pin) (by omega);have hpin:∀x:Nd,x∈c.nodes→IntKind.i64.wrap ((x.ins.length:Int)+1)=((x.ins.length+1:Nat):Int)∧IntKind.i64.wrap ((f.pin%(x.ins.length+1):Nat):Int)=((f.pin%(x.ins.length+1):Nat):Int)∧IntKind.i64.wrap (((f.pin%(x.ins.length+1):Nat):Int)-1)=((f.pin%(x.ins.length+1):Nat):Int)-1∧¬((x.ins.length+1:Nat):Int)=0:=by intro x hx;have:=h.insl hx;have hq:=Nat.mod_lt f.pin (show 0<x.ins.length+1 by omega);generalize f.pin%(x.ins.length+1)=q at hq⊢;exact⟨wI1 (by omega),wI (by omega),w64 (by omega) (by omega),by omega⟩
 generalize hN1:f.node%c.nodes.length=nd at hnd w3;generalize hN2:f.other%c.nodes.length=ot at hot w5;have hmm:f.model%4=0∨f.model%4=2∨f.model%4=3:=by omega
 rcases hmm with hm0|hm2|hm3
 ·obtain⟨x,hx⟩:∃x,c.nodes[nd]?=some x:=⟨_,z9e hnd⟩
  obtain⟨p1,p2,p3,p4⟩:=hpin x (List.mem_of_getElem? hx);cases ho:f.one
  ·simp only[Cir.enc,FX.enc,ho]
   (refine svE Tryz.f20 ?_;simp only[Tryz.f20,gS])
   (repeat first|simp only[ww]|(apply xa;simp+decide only[go_sem,c0,w1,w2,w3,w6,hN1,hm0,hx,hnd,p1,p2,p3,p4];rfl;kernel_rfl))
   refine a2v (vs:=[.agg (Flt.enc ⟨0,nd,((f.pin%(x.ins.length+1):Nat):Int)-1,0,0⟩)]) (r:=(.agg (Flt.enc ⟨0,nd,((f.pin%(x.ins.length+1):Nat):Int)-1,0,0⟩),[])) (by simp+decide only[go_sem,hm0,hx,hN1,p1,p2,p3,p4]<;>rfl) ?_ ⟨_,a6d hx (p:=f.pin) (v:=0) (by omega),rfl⟩;simp+decide only[go_sem]
  ·simp only[Cir.enc,FX.enc,ho]
   (refine svE Tryz.f20 ?_;simp only[Tryz.f20,gS])
   (repeat first|simp only[ww]|(apply xa;simp+decide only[go_sem,c0,w1,w2,w3,w6,hN1,hm0,hx,hnd,p1,p2,p3,p4];rfl;kernel_rfl))
   refine a2v (vs:=[.agg (Flt.enc ⟨0,nd,((f.pin%(x.ins.length+1):Nat):Int)-1,1,0⟩)]) (r:=(.agg (Flt.enc ⟨0,nd,((f.pin%(x.ins.length+1):Nat):Int)-1,1,0⟩),[])) (by simp+decide only[go_sem,hm0,hx,hN1,p1,p2,p3,p4]<;>rfl) ?_ ⟨_,a6d hx (p:=f.pin) (v:=1) (by omega),rfl⟩;simp+decide only[go_sem]
 ·by_cases hlt:ot<nd
  ·have hsw:(ot:Int)<nd:=by omega
   cases ho:f.one
   ·obtain⟨e,he,hce⟩:=a4p c h ⟨2,ot,-1,0,nd⟩ ⟨.inl rfl,hot,rfl,by show 0≤1;omega,hnd,λ_=>by show ot≤nd;omega,λhh=>by have hh:(2:Nat)=3:=hh;omega⟩;have hce:∀H,a0a L.env false (sem L.env Mf) (.func (.func 51) [] []) [.agg [sl c.nc (c.nodes.map Nd.enc),sl c.mc (c.names.map a1h),.nilslice,sl c.oc (c.outs.map a0h)],.agg [.int .u8 ((2:Nat):Int),.int .i64 ot,.int .i64 (-1),.int .u8 0,.int .i64 nd]] H=some (.int .i64 e,H,[]):=hce false;obtain⟨x,hx⟩:∃x,c.nodes[ot]?=some x:=⟨_,z9e hot⟩
    obtain⟨p1,p2,p3,p4⟩:=hpin x (List.mem_of_getElem? hx);simp only[Cir.enc,FX.enc,ho];by_cases he0:e=0
    ·subst he0
     (refine svE Tryz.f20 ?_;simp only[Tryz.f20,gS])
     (repeat first|simp only[ww]|(apply xa;simp+decide only[go_sem,c0,w1,w2,w3,w4,w5,w6,hN1,hN2,hm2,hx,hnd,hot,p1,p2,p3,p4,hce,hsw];rfl;kernel_rfl))
     refine a2v (vs:=[.agg (Flt.enc ⟨2,ot,-1,0,nd⟩)]) (r:=(.agg (Flt.enc ⟨2,ot,-1,0,nd⟩),[])) (by simp+decide only[go_sem,hm2,hN1,hN2]<;>rfl) ?_ ⟨_,he rfl,rfl⟩;simp+decide only[go_sem]
    ·have ce:¬(e:Int)=0:=by omega
     (refine svE Tryz.f20 ?_;simp only[Tryz.f20,gS])
     (repeat first|simp only[ww]|(apply xa;simp+decide only[go_sem,c0,w1,w2,w3,w4,w5,w6,hN1,hN2,hm2,hx,hnd,hot,p1,p2,p3,p4,hce,ce,hsw];rfl;kernel_rfl))
     refine a2v (vs:=[.agg (Flt.enc ⟨0,ot,((f.pin%(x.ins.length+1):Nat):Int)-1,0,0⟩)]) (r:=(.agg (Flt.enc ⟨0,ot,((f.pin%(x.ins.length+1):Nat):Int)-1,0,0⟩),[])) (by simp+decide only[go_sem,hx,hN1,hN2,p1,p2,p3,p4]<;>rfl) ?_ ⟨_,a6d hx (p:=f.pin) (v:=0) (by omega),rfl⟩;simp+decide only[go_sem]
   ·obtain⟨e,he,hce⟩:=a4p c h ⟨2,ot,-1,1,nd⟩ ⟨.inl rfl,hot,rfl,by show 1≤1;omega,hnd,λ_=>by show ot≤nd;omega,λhh=>by have hh:(2:Nat)=3:=hh;omega⟩;have hce:∀H,a0a L.env false (sem L.env Mf) (.func (.func 51) [] []) [.agg [sl c.nc (c.nodes.map Nd.enc),sl c.mc (c.names.map a1h),.nilslice,sl c.oc (c.outs.map a0h)],.agg [.int .u8 ((2:Nat):Int),.int .i64 ot,.int .i64 (-1),.int .u8 1,.int .i64 nd]] H=some (.int .i64 e,H,[]):=hce false;obtain⟨x,hx⟩:∃x,c.nodes[ot]?=some x:=⟨_,z9e hot⟩
    obtain⟨p1,p2,p3,p4⟩:=hpin x (List.mem_of_getElem? hx);simp only[Cir.enc,FX.enc,ho];by_cases he0:e=0
    ·subst he0
     (refine svE Tryz.f20 ?_;simp only[Tryz.f20,gS])
     (repeat first|simp only[ww]|(apply xa;simp+decide only[go_sem,c0,w1,w2,w3,w4,w5,w6,hN1,hN2,hm2,hx,hnd,hot,p1,p2,p3,p4,hce,hsw];rfl;kernel_rfl))
     refine a2v (vs:=[.agg (Flt.enc ⟨2,ot,-1,1,nd⟩)]) (r:=(.agg (Flt.enc ⟨2,ot,-1,1,nd⟩),[])) (by simp+decide only[go_sem,hm2,hN1,hN2]<;>rfl) ?_ ⟨_,he rfl,rfl⟩;simp+decide only[go_sem]
    ·have ce:¬(e:Int)=0:=by omega
     (refine svE Tryz.f20 ?_;simp only[Tryz.f20,gS])
     (repeat first|simp only[ww]|(apply xa;simp+decide only[go_sem,c0,w1,w2,w3,w4,w5,w6,hN1,hN2,hm2,hx,hnd,hot,p1,p2,p3,p4,hce,ce,hsw];rfl;kernel_rfl))
     refine a2v (vs:=[.agg (Flt.enc ⟨0,ot,((f.pin%(x.ins.length+1):Nat):Int)-1,1,0⟩)]) (r:=(.agg (Flt.enc ⟨0,ot,((f.pin%(x.ins.length+1):Nat):Int)-1,1,0⟩),[])) (by simp+decide only[go_sem,hx,hN1,hN2,p1,p2,p3,p4]<;>rfl) ?_ ⟨_,a6d hx (p:=f.pin) (v:=1) (by omega),rfl⟩;simp+decide only[go_sem]
  ·have hsw:¬(ot:Int)<nd:=by omega
   cases ho:f.one
   ·obtain⟨e,he,hce⟩:=a4p c h ⟨2,nd,-1,0,ot⟩ ⟨.inl rfl,hnd,rfl,by show 0≤1;omega,hot,λ_=>by show nd≤ot;omega,λhh=>by have hh:(2:Nat)=3:=hh;omega⟩;have hce:∀H,a0a L.env false (sem L.env Mf) (.func (.func 51) [] []) [.agg [sl c.nc (c.nodes.map Nd.enc),sl c.mc (c.names.map a1h),.nilslice,sl c.oc (c.outs.map a0h)],.agg [.int .u8 ((2:Nat):Int),.int .i64 nd,.int .i64 (-1),.int .u8 0,.int .i64 ot]] H=some (.int .i64 e,H,[]):=hce false;obtain⟨x,hx⟩:∃x,c.nodes[nd]?=some x:=⟨_,z9e hnd⟩
    obtain⟨p1,p2,p3,p4⟩:=hpin x (List.mem_of_getElem? hx);simp only[Cir.enc,FX.enc,ho];by_cases he0:e=0
    ·subst he0
     (refine svE Tryz.f20 ?_;simp only[Tryz.f20,gS])
     (repeat first|simp only[ww]|(apply xa;simp+decide only[go_sem,c0,w1,w2,w3,w4,w5,w6,hN1,hN2,hm2,hx,hnd,hot,p1,p2,p3,p4,hce,hsw];rfl;kernel_rfl))
     refine a2v (vs:=[.agg (Flt.enc ⟨2,nd,-1,0,ot⟩)]) (r:=(.agg (Flt.enc ⟨2,nd,-1,0,ot⟩),[])) (by simp+decide only[go_sem,hm2,hN1,hN2]<;>rfl) ?_ ⟨_,he rfl,rfl⟩;simp+decide only[go_sem]
    ·have ce:¬(e:Int)=0:=by omega
     (refine svE Tryz.f20 ?_;simp only[Tryz.f20,gS])
     (repeat first|simp only[ww]|(apply xa;simp+decide only[go_sem,c0,w1,w2,w3,w4,w5,w6,hN1,hN2,hm2,hx,hnd,hot,p1,p2,p3,p4,hce,ce,hsw];rfl;kernel_rfl))
     refine a2v (vs:=[.agg (Flt.enc ⟨0,nd,((f.pin%(x.ins.length+1):Nat):Int)-1,0,0⟩)]) (r:=(.agg (Flt.enc ⟨0,nd,((f.pin%(x.ins.length+1):Nat):Int)-1,0,0⟩),[])) (by simp+decide only[go_sem,hx,hN1,hN2,p1,p2,p3,p4]<;>rfl) ?_ ⟨_,a6d hx (p:=f.pin) (v:=0) (by omega),rfl⟩;simp+decide only[go_sem]
   ·obtain⟨e,he,hce⟩:=a4p c h ⟨2,nd,-1,1,ot⟩ ⟨.inl rfl,hnd,rfl,by show 1≤1;omega,hot,λ_=>by show nd≤ot;omega,λhh=>by have hh:(2:Nat)=3:=hh;omega⟩;have hce:∀H,a0a L.env false (sem L.env Mf) (.func (.func 51) [] []) [.agg [sl c.nc (c.nodes.map Nd.enc),sl c.mc (c.names.map a1h),.nilslice,sl c.oc (c.outs.map a0h)],.agg [.int .u8 ((2:Nat):Int),.int .i64 nd,.int .i64 (-1),.int .u8 1,.int .i64 ot]] H=some (.int .i64 e,H,[]):=hce false;obtain⟨x,hx⟩:∃x,c.nodes[nd]?=some x:=⟨_,z9e hnd⟩
    obtain⟨p1,p2,p3,p4⟩:=hpin x (List.mem_of_getElem? hx);simp only[Cir.enc,FX.enc,ho];by_cases he0:e=0
    ·subst he0
     (refine svE Tryz.f20 ?_;simp only[Tryz.f20,gS])
     (repeat first|simp only[ww]|(apply xa;simp+decide only[go_sem,c0,w1,w2,w3,w4,w5,w6,hN1,hN2,hm2,hx,hnd,hot,p1,p2,p3,p4,hce,hsw];rfl;kernel_rfl))
     refine a2v (vs:=[.agg (Flt.enc ⟨2,nd,-1,1,ot⟩)]) (r:=(.agg (Flt.enc ⟨2,nd,-1,1,ot⟩),[])) (by simp+decide only[go_sem,hm2,hN1,hN2]<;>rfl) ?_ ⟨_,he rfl,rfl⟩;simp+decide only[go_sem]
    ·have ce:¬(e:Int)=0:=by omega
     (refine svE Tryz.f20 ?_;simp only[Tryz.f20,gS])
     (repeat first|simp only[ww]|(apply xa;simp+decide only[go_sem,c0,w1,w2,w3,w4,w5,w6,hN1,hN2,hm2,hx,hnd,hot,p1,p2,p3,p4,hce,ce,hsw];rfl;kernel_rfl))
     refine a2v (vs:=[.agg (Flt.enc ⟨0,nd,((f.pin%(x.ins.length+1):Nat):Int)-1,1,0⟩)]) (r:=(.agg (Flt.enc ⟨0,nd,((f.pin%(x.ins.length+1):Nat):Int)-1,1,0⟩),[])) (by simp+decide only[go_sem,hx,hN1,hN2,p1,p2,p3,p4]<;>rfl) ?_ ⟨_,a6d hx (p:=f.pin) (v:=1) (by omega),rfl⟩;simp+decide only[go_sem]
 ·cases ho:f.one
  ·obtain⟨e,he,hce⟩:=a4p c h ⟨3,nd,-1,0,ot⟩ ⟨.inr rfl,hnd,rfl,by show 0≤1;omega,hot,λhh=>by have hh:(3:Nat)=2:=hh;omega,λ_=>rfl⟩;have hce:∀H,a0a L.env false (sem L.env Mf) (.func (.func 51) [] []) [.agg [sl c.nc (c.nodes.map Nd.enc),sl c.mc (c.names.map a1h),.nilslice,sl c.oc (c.outs.map a0h)],.agg [.int .u8 ((3:Nat):Int),.int .i64 nd,.int .i64 (-1),.int .u8 0,.int .i64 ot]] H=some (.int .i64 e,H,[]):=hce false;obtain⟨x,hx⟩:∃x,c.nodes[nd]?=some x:=⟨_,z9e hnd⟩
   obtain⟨p1,p2,p3,p4⟩:=hpin x (List.mem_of_getElem? hx);simp only[Cir.enc,FX.enc,ho];by_cases he0:e=0
   ·subst he0
    (refine svE Tryz.f20 ?_;simp only[Tryz.f20,gS])
    (repeat first|simp only[ww]|(apply xa;simp+decide only[go_sem,c0,w1,w2,w3,w4,w5,w6,hN1,hN2,hm3,hx,hnd,hot,p1,p2,p3,p4,hce];rfl;kernel_rfl))
    refine a2v (vs:=[.agg (Flt.enc ⟨3,nd,-1,0,ot⟩)]) (r:=(.agg (Flt.enc ⟨3,nd,-1,0,ot⟩),[])) (by simp+decide only[go_sem,hm3,hN1,hN2]<;>rfl) ?_ ⟨_,he rfl,rfl⟩;simp+decide only[go_sem]
   ·have ce:¬(e:Int)=0:=by omega
    (refine svE Tryz.f20 ?_;simp only[Tryz.f20,gS])
    (repeat first|simp only[ww]|(apply xa;simp+decide only[go_sem,c0,w1,w2,w3,w4,w5,w6,hN1,hN2,hm3,hx,hnd,hot,p1,p2,p3,p4,hce,ce];rfl;kernel_rfl))
    refine a2v (vs:=[.agg (Flt.enc ⟨0,nd,((f.pin%(x.ins.length+1):Nat):Int)-1,0,0⟩)]) (r:=(.agg (Flt.enc ⟨0,nd,((f.pin%(x.ins.length+1):Nat):Int)-1,0,0⟩),[])) (by simp+decide only[go_sem,hx,hN1,hN2,p1,p2,p3,p4]<;>rfl) ?_ ⟨_,a6d hx (p:=f.pin) (v:=0) (by omega),rfl⟩;simp+decide only[go_sem]
  ·obtain⟨e,he,hce⟩:=a4p c h ⟨3,nd,-1,0,ot⟩ ⟨.inr rfl,hnd,rfl,by show 0≤1;omega,hot,λhh=>by have hh:(3:Nat)=2:=hh;omega,λ_=>rfl⟩;have hce:∀H,a0a L.env false (sem L.env Mf) (.func (.func 51) [] []) [.agg [sl c.nc (c.nodes.map Nd.enc),sl c.mc (c.names.map a1h),.nilslice,sl c.oc (c.outs.map a0h)],.agg [.int .u8 ((3:Nat):Int),.int .i64 nd,.int .i64 (-1),.int .u8 0,.int .i64 ot]] H=some (.int .i64 e,H,[]):=hce false;obtain⟨x,hx⟩:∃x,c.nodes[nd]?=some x:=⟨_,z9e hnd⟩
   obtain⟨p1,p2,p3,p4⟩:=hpin x (List.mem_of_getElem? hx);simp only[Cir.enc,FX.enc,ho];by_cases he0:e=0
   ·subst he0
    (refine svE Tryz.f20 ?_;simp only[Tryz.f20,gS])
    (repeat first|simp only[ww]|(apply xa;simp+decide only[go_sem,c0,w1,w2,w3,w4,w5,w6,hN1,hN2,hm3,hx,hnd,hot,p1,p2,p3,p4,hce];rfl;kernel_rfl))
    refine a2v (vs:=[.agg (Flt.enc ⟨3,nd,-1,0,ot⟩)]) (r:=(.agg (Flt.enc ⟨3,nd,-1,0,ot⟩),[])) (by simp+decide only[go_sem,hm3,hN1,hN2]<;>rfl) ?_ ⟨_,he rfl,rfl⟩;simp+decide only[go_sem]
   ·have ce:¬(e:Int)=0:=by omega
    (refine svE Tryz.f20 ?_;simp only[Tryz.f20,gS])
    (repeat first|simp only[ww]|(apply xa;simp+decide only[go_sem,c0,w1,w2,w3,w4,w5,w6,hN1,hN2,hm3,hx,hnd,hot,p1,p2,p3,p4,hce,ce];rfl;kernel_rfl))
    refine a2v (vs:=[.agg (Flt.enc ⟨0,nd,((f.pin%(x.ins.length+1):Nat):Int)-1,0,0⟩)]) (r:=(.agg (Flt.enc ⟨0,nd,((f.pin%(x.ins.length+1):Nat):Int)-1,0,0⟩),[])) (by simp+decide only[go_sem,hx,hN1,hN2,p1,p2,p3,p4]<;>rfl) ?_ ⟨_,a6d hx (p:=f.pin) (v:=0) (by omega),rfl⟩;simp+decide only[go_sem]
attribute [go_sem] Pat.enc
structure PatOk(nodes:List Nd)(p:Pat):Prop where
 ins:p.ins.length=(kinds nodes 0).length
 sts:p.sts.length=(kinds nodes 14).length
 inv:∀v∈p.ins,v≤3
 stv:∀v∈p.sts,v≤3
theorem a3r(nodes:List Nd)(k:Nat):(kinds nodes k).length≤nodes.length:=b3m _ _ _
theorem d4n(c:Cir)(h:c.wf)(k:Nat):sem L.env Mf 91 [.agg c.enc,.int .u8 k] []=some (.int .i64 (kinds c.nodes k).length,[]):=by
 have hn:=h.len;simp only[Cir.enc]
 (refine sv Tryz.f91 ?_;simp only[Tryz.f91,gS])
 (repeat first|simp only[ww]|(apply xa;simp+decide only[go_sem];rfl;kernel_rfl))
 refine a0p (σ:=Nat) kp91_0 (λi=>[(1,.int .u8 k),(2,.ptr 0 0 0),(5,.int .i64 (a3g c.nodes k i).length),(6,.int .i64 i)])
  (λi=>[some (.row 4 [[sl c.nc (c.nodes.map Nd.enc),sl c.mc (c.names.map a1h),.nilslice,sl c.oc (c.outs.map a0h)]])]) (λi=>c.nodes.length-i) (λi=>i≤c.nodes.length) 0 ?_ (Nat.zero_le _) ?_
 ·have e:a3g c.nodes k 0=[]:=rfl
  (simp+decide only[go_sem,a03,a00,e,List.length_nil]<;>rfl)
 ·intro i hi;by_cases hlt:i<c.nodes.length
  ·obtain⟨x,hx⟩:∃x,c.nodes[i]?=some x:=⟨_,z9e hlt⟩
   have c1:(i:Int)<c.nodes.length:=by omega
   have hw:=wI1 (n:=i) (by omega);have hle:=b3m c.nodes k i;have hw2:=wI1 (n:=(a3g c.nodes k i).length) (by omega);have hs:=b3l c.nodes k i;rw[a1e hx]at hs;by_cases hk:x.kind=k
   ·have ck:decide ((x.kind:Int)=k)=true:=decide_eq_true (by omega);rw[if_pos hk]at hs;have hl:(a3g c.nodes k (i+1)).length=(a3g c.nodes k i).length+1:=by rw[hs];simp
    (repeat first|simp only[ww]|(apply xa;simp+decide only[go_sem,c1,hlt,hx,hw,hw2,ck];rfl;kernel_rfl))
    refine a27 (i+1) ?_ (by omega) (by omega)
    (simp+decide only[go_sem,a03,a00,hl]<;>rfl)
   ·have ck:¬(x.kind:Int)=k:=by omega
    rw[if_neg hk]at hs
    (repeat first|simp only[ww]|(apply xa;simp+decide only[go_sem,c1,hlt,hx,hw,hw2,ck];rfl;kernel_rfl))
    refine a27 (i+1) ?_ (by omega) (by omega)
    (simp+decide only[go_sem,a03,a00,hs]<;>rfl)
  ·obtain rfl:i=c.nodes.length:=by omega
   have c1:¬(c.nodes.length:Int)<c.nodes.length:=by omega
   (repeat first|simp only[ww]|(apply xa;simp+decide only[go_sem,c1];rfl;kernel_rfl))
   (apply fqb;simp+decide only[go_sem,kinds]<;>rfl)
theorem b6l{d:Bool}(H:a02)(c:Cir)(h:c.wf){n:Int}(k:Nat)(hk:n=k):a0a L.env d (sem L.env Mf) (.func (.func 91) [] []) [.agg c.enc,.int .u8 n] H=some (.int .i64 (kinds c.nodes k).length,H,[]):=by subst hk;exact a04 (by kernel_rfl) (by kernel_rfl) rfl (by simp only[a07,a0s,Cir.enc,go_sem]) (d4n c h k) rfl
theorem c3y(l:List Nat):(l.map u8R).flatMap a0e=[]:=a08 (FlatR.map λ_=>rfl)
theorem c1m(π:Nat→Option Nat)(l:List Nat):(l.map u8R).map (λr=>r.map (ren π))=l.map u8R:=a06 π (FlatR.map λ_=>rfl)
structure PxOk(p:Pat):Prop where
 inv:∀v∈p.ins,v<256
 stv:∀v∈p.sts,v<256
 inl:p.ins.length<9223372036854775808
 stl:p.sts.length<9223372036854775808
theorem d49(c:Cir)(h:c.wf)(f:FX)(hf:f.ok)(hm:f.model%4≠1):∃g,FltOk c.nodes g∧∀(d:Bool) (H:a02),a0a L.env d (sem L.env Mf) (.func (.func 20) [] []) [.agg f.enc,.agg c.enc] H=some (.agg g.enc,H,[]):=by obtain⟨r,⟨g,h1,rfl⟩,h2⟩:=e40 c h f hf hm;exact⟨g,h1,λd H=>a04 (by kernel_rfl) (by kernel_rfl) rfl (by simp only[a07,a0s,Cir.enc,FX.enc,go_sem]) h2 rfl⟩
/- patterns that fit -/
theorem d5m(v:Nat)(hv:v≤3):sem L.env Mf 105 [.int .u8 v] []=some (.bool false,[]):=by
 have c1:¬(3:Int)<v:=by omega
 (refine sv Tryz.f105 ?_;simp only[Tryz.f105,gS])
 (repeat first|simp only[ww]|(apply xa;simp+decide only[go_sem,c1];rfl;kernel_rfl))
 (apply fqb;simp+decide only[go_sem]<;>rfl)
theorem c6o{d:Bool}(H:a02)(v:Nat)(hv:v≤3):a0a L.env d (sem L.env Mf) (.func (.func 105) [] []) [.int .u8 v] H=some (.bool false,H,[]):=a04 (by kernel_rfl) (by kernel_rfl) rfl rfl (d5m v hv) rfl
def a8y:AV:=.func (.func 105) [] []
theorem c9p(r:Rep)(l:List Nat)(hl:l.length<1000000)(hc:∀v∈l,v≤3) :
 sem L.env Mf 139 [sl r (l.map u8R),a8y] []=some (.int .i64 (-1),[]):=by
 unfold a8y
 (refine sv Tryz.f139 ?_;simp only[Tryz.f139,gS])
 (repeat first|simp only[ww]|(apply xa;simp+decide only[go_sem];rfl;kernel_rfl))
 refine a0p (σ:=Nat) kp139_0 (λi=>[(0,sl r (l.map u8R)),(1,a8y),(7,.int .i64 l.length),(8,.int .i64 i)])
  (λ_=>[]) (λi=>l.length-i) (λi=>i≤l.length) 0 ?_ (Nat.zero_le _) ?_
 ·unfold a8y
  (simp+decide only[go_sem,a03,a00]<;>rfl)
 ·intro i hi;unfold a8y;by_cases hlt:i<l.length
  ·obtain⟨x,hx⟩:∃x,l[i]?=some x:=⟨_,z9e hlt⟩
   have c1:(i:Int)<l.length:=by omega
   have hw:=wI1 (n:=i) (by omega);have hcx:=λH=>c6o (d:=false) H x (hc x (List.mem_of_getElem? hx))
   (repeat first|simp only[ww]|(apply xa;simp+decide only[go_sem,c1,hlt,hx,hw,hcx];rfl;kernel_rfl))
   refine a27 (i+1) ?_ (by omega) (by omega)
   (simp+decide only[go_sem,a03,a00,a8y]<;>rfl)
  ·obtain rfl:i=l.length:=by omega
   have c1:¬(l.length:Int)<l.length:=by omega
   (repeat first|simp only[ww]|(apply xa;simp+decide only[go_sem,c1];rfl;kernel_rfl))
   (apply fqb;simp+decide only[go_sem]<;>rfl)
theorem c64(r:Rep)(l:List Nat)(hl:l.length<1000000)(hc:∀v∈l,v≤3) :
 sem L.env Mf 92 [sl r (l.map u8R),a8y] []=some (.bool false,[]):=by
 have h:=λH=>a04 (E:=L.env) (draw:=false) (call:=sem L.env Mf) (g:=139) (fs:=[]) (cs:=[]) (ar:=[sl r (l.map u8R),a8y]) (H:=H) (by kernel_rfl) (by kernel_rfl) rfl (by simp only[List.nil_append,List.append_nil,a07,a8y,go_sem]) (c9p r l hl hc) rfl;have c1:¬(0:Int)≤ -1:=by omega
 unfold a8y at h⊢
 (refine sv Tryz.f92 ?_;simp only[Tryz.f92,gS])
 (repeat first|simp only[ww]|(apply xa;simp+decide only[go_sem,h,c1];rfl;kernel_rfl))
 (apply fqb;simp+decide only[go_sem]<;>rfl)
theorem b6m{d:Bool}(H:a02)(r:Rep)(l:List Nat)(hl:l.length<1000000)(hc:∀v∈l,v≤3):a0a L.env d (sem L.env Mf) (.func (.func 92) [] []) [sl r (l.map u8R),.func (.func 105) [] []] H=some (.bool false,H,[]):=a04 (by kernel_rfl) (by kernel_rfl) rfl (by simp only[List.nil_append,List.append_nil,a07,go_sem]) (c64 r l hl hc) rfl
theorem d8q(c:Cir)(h:c.wf):kinds c.nodes 15=[]:=by
 unfold kinds a3g;rw[List.filter_eq_nil_iff];intro j hj;have hj:j<c.nodes.length:=by simpa using hj
 obtain⟨x,hx⟩:∃x,c.nodes[j]?=some x:=⟨_,z9e hj⟩
 have:=h.kind x (List.mem_of_getElem? hx);rw[a1e hx];simp;omega
theorem d9a(c:Cir)(h:c.wf)(p:Pat)(hp:PatOk c.nodes p):sem L.env Mf 59 [.agg c.enc,.agg p.enc] []=some (.int .i64 0,[]):=by
 have hn:=h.len;have hk0:=a3r c.nodes 0;have hk14:=a3r c.nodes 14;have l1:=hp.ins;have l2:=hp.sts;have ho:=λX Y=>b23 (d:=false) (H:=[X,Y,some (.row 1 [[.int .u8 15]])]) (b:=2) c (k:=15) rfl (by omega) rfl;rw[d8q c h,c3o]at ho;have hi:=λH=>a3w (d:=true) H c (by omega);have hs:=λH=>a5n (d:=true) H c (by omega);obtain⟨r0,e0⟩:=a4f (kinds c.nodes 0);obtain⟨r1,e1⟩:=a4f (kinds c.nodes 14);rw[e0]at hi;rw[e1]at hs;have hc1:=λH=>b6m (d:=false) H p.ic p.ins (by omega) hp.inv;have hc2:=λH=>b6m (d:=false) H p.sc p.sts (by omega) hp.stv;simp only[Cir.enc]at ho hi hs;simp only[Cir.enc,Pat.enc]
 (refine sv Tryz.f59 ?_;simp only[Tryz.f59,gS])
 (repeat first|simp only[ww]|(apply xa;simp+decide only[go_sem,ho,hi,hs,hc1,hc2,l1,l2];rfl;kernel_rfl))
 (apply fqb;simp+decide only[go_sem]<;>rfl)
theorem c79(r:Rep)(l:List Nat)(hv:∀v∈l,v<256)(hl:l.length<9223372036854775808)(n most:Nat)(hn:n≤100000)(hm:0<most)(hm4:most≤4)(hm3:3≤most):∃r':AV×a02,(∃out:List Nat,out.length=n∧(∀v∈out,v<most)∧r'=(grV 0 (out.map u8R),grH 1 (out.map u8R)))∧sem L.env Mf 90 [sl r (l.map u8R),.int .i64 n,.int .u8 most] []=some r':=by
 (refine svE Tryz.f90 ?_;simp only[Tryz.f90,gS])
 (repeat first|simp only[ww]|(apply xa;simp+decide only[go_sem];rfl;kernel_rfl))
 refine a4j kp90_0 (λq F H=>∃out:List Nat,q=n-out.length∧out.length≤n∧(∀v∈out,v<most)∧F=[(0,sl r (l.map u8R)),(1,.int .i64 n),(2,.int .u8 most),(7,grV 0 (out.map u8R)),(8,.int .i64 out.length)]∧H=grH 1 (out.map u8R)) (n-0) ?_ ?_
 ·refine⟨_,_,?_,[],rfl,Nat.zero_le _,by simp,rfl,rfl⟩
  (simp+decide only[go_sem,a03,a00,List.map_nil,a0t,a0u]<;>rfl)<;>rfl
 ·rintro q F H ⟨out,rfl,ho,hov,rfl,rfl⟩
  by_cases hlt:out.length<n
  ·have c1:(out.length:Int)<n:=by omega
   have hw:=wI1 (n:=out.length) (by omega);have hrm:out.length+1≤1000000000:=by omega
   by_cases hle:l=[]
   ·subst hle;cases out with
    |nil=>
     simp only[List.length_nil]at hw c1
     (repeat first|simp only[ww]|(apply xa;simp+decide only[go_sem,c1,hw,List.map_nil,List.length_nil,List.map_nil,a0t,a0u,List.length_nil];rfl;kernel_rfl))
     refine a1j (n-1) (by simp at hlt⊢;omega) ⟨_,_,?_,[2],rfl,by simp at hlt⊢;omega,by intro u hu;simp only[List.mem_singleton]at hu;subst hu;omega,rfl,rfl⟩
     (simp+decide only[go_sem,a03,a00,List.map_cons,List.map_nil,a0b,a0c,List.length_nil,List.length_cons,c3y,c1m]<;>rfl)<;>rfl
    |cons a r2=>
     simp only[List.length_cons]at hrm hw c1 hlt
     (repeat first|simp only[ww]|(apply xa;simp+decide only[go_sem,c1,hw,List.map_nil,List.length_nil,List.map_cons,a0b,a0c,hrm,List.length_cons];rfl;kernel_rfl))
     refine a1j (n-(r2.length+1+1)) (by simp;omega) ⟨_,_,?_,(a::r2)++[2],by simp,by simp;omega,by intro u hu;rw[List.mem_append]at hu;rcases hu with hu|hu;exact hov u hu;simp only[List.mem_singleton]at hu;subst hu;omega,rfl,rfl⟩
     (simp+decide only[go_sem,a03,a00,List.cons_append,List.map_cons,List.map_nil,a0b,a0c,List.length_cons,c3y,c1m]<;>rfl)<;>rfl
   ·have hl0:0<l.length:=List.length_pos_iff.2 hle;have cl:¬(l.length:Int)=0:=by omega
    have hml:=Nat.mod_lt out.length hl0;obtain⟨u,hu⟩:∃u,l[out.length%l.length]?=some u:=⟨_,z9e hml⟩
    have hub:=hv u (List.mem_of_getElem? hu);have hmm:=Nat.mod_lt u hm;have cm:¬(most:Int)=0:=by omega
    have w1:=wI (n:=out.length%l.length) (by omega);have w2:=wB (n:=u%most) (by omega);cases out with
    |nil=>
     simp only[List.length_nil]at hml hu w1 hw c1
     (repeat first|simp only[ww]|(apply xa;simp+decide only[go_sem,c1,hw,cl,hml,hu,cm,w1,w2,List.map_nil,a0t,a0u,List.length_nil];rfl;kernel_rfl))
     refine a1j (n-1) (by simp at hlt⊢;omega) ⟨_,_,?_,[u%most],rfl,by simp at hlt⊢;omega,by intro u hu;simp only[List.mem_singleton]at hu;subst hu;omega,rfl,rfl⟩
     (simp+decide only[go_sem,a03,a00,List.map_cons,List.map_nil,a0b,a0c,List.length_nil,List.length_cons,c3y,c1m]<;>rfl)<;>rfl
    |cons a r2=>
     simp only[List.length_cons]at hrm hw c1 hlt hml hu w1
     (repeat first|simp only[ww]|(apply xa;simp+decide only[go_sem,c1,hw,cl,hml,hu,cm,w1,w2,List.map_cons,a0b,a0c,hrm,List.length_cons];rfl;kernel_rfl))
     refine a1j (n-(r2.length+1+1)) (by simp;omega) ⟨_,_,?_,(a::r2)++[u%most],by simp,by simp;omega,by intro u hu;rw[List.mem_append]at hu;rcases hu with hu|hu;exact hov u hu;simp only[List.mem_singleton]at hu;subst hu;omega,rfl,rfl⟩
     (simp+decide only[go_sem,a03,a00,List.cons_append,List.map_cons,List.map_nil,a0b,a0c,List.length_cons,c3y,c1m]<;>rfl)<;>rfl
  ·obtain rfl:n=out.length:=by omega
   have c1:¬(out.length:Int)<out.length:=by omega
   cases out with
   |nil=>
    (repeat first|simp only[ww]|(apply xa;simp+decide only[go_sem,c1,List.map_nil,a0t,a0u];rfl;kernel_rfl))
    refine a2v (vs:=[.nilslice]) (r:=(.nilslice,[])) (by simp+decide only[go_sem]) ?_ ⟨[],rfl,by simp,rfl⟩;simp+decide only[go_sem]
   |cons a r2=>
    simp only[List.length_cons]at c1
    (repeat first|simp only[ww]|(apply xa;simp+decide only[go_sem,c1,List.map_cons,a0b,a0c,List.length_cons];rfl;kernel_rfl))
    refine a2v (vs:=[.slice 0 0 (r2.length+1) none]) (r:=(.slice 0 0 (r2.length+1) none,[some (.row 1 ((a::r2).map u8R))])) (by simp+decide only[go_sem]) ?_ ⟨a::r2,rfl,hov,by rw[List.map_cons,a0b,a0c,List.length_map]⟩;rfl
theorem b2m(r:Rep)(l:List Nat)(hv:∀v∈l,v<256)(hl:l.length<9223372036854775808)(n most:Nat)(hn:n≤100000)(hm:0<most)(hm4:most≤4)(hm3:3≤most):∃out:List Nat,out.length=n∧(∀v∈out,v<most)∧∀(d:Bool) (H:a02) (k:Int),k=most→a0a L.env d (sem L.env Mf) (.func (.func 90) [] []) [sl r (l.map u8R),.int .i64 n,.int .u8 k] H=some (grV H.length (out.map u8R),H++grH 1 (out.map u8R),[]):=by
 obtain⟨r',⟨out,h1,h2,rfl⟩,h3⟩:=c79 r l hv hl n most hn hm hm4 hm3;refine⟨out,h1,h2,λd H k hk=>?_⟩;subst hk;have h:=a9g (E:=L.env) (d:=d) (H:=H) (fs:=[]) (cs:=[]) (ar:=[sl r (l.map u8R),.int .i64 n,.int .u8 most]) (by kernel_rfl) (by kernel_rfl) rfl (by simp only[List.nil_append,List.append_nil,a07,go_sem]) h3;rw[h];cases out with
 |nil=>rfl
 |cons a t=>have hr:=c1m (a19 [] H.length) t;simp only[List.map_cons,a0b,a0c,List.length_map,ren,b4k,List.map_nil,Option.map_some,a0f,hr,Nat.add_zero]<;>rfl
def ptH(n:Nat)(p:Pat)(c:Cir)(a b:List Nat):a02:=[some (.row 2 [[sl p.ic (p.ins.map u8R),sl p.sc (p.sts.map u8R)]]),some (.row 4 [[sl c.nc (c.nodes.map Nd.enc),sl c.mc (c.names.map a1h),.nilslice,sl c.oc (c.outs.map a0h)]]),some (.row 2 [[.slice (n+3) 0 a.length none,grV (n+4) (b.map u8R)]]),some (.row 1 (a.map u8R))]++grH 1 (b.map u8R)
theorem d7z(c:Cir)(h:c.wf)(hk:kinds c.nodes 0≠[])(p:Pat)(hp:PxOk p):∃r:AV×a02,(∃a b:List Nat,PatOk c.nodes ⟨none,a,none,b⟩∧(∀v∈b,v≤2)∧r=(.agg [.slice 3 0 a.length none,grV 4 (b.map u8R)],ptH 0 p c a b))∧sem L.env Mf 43 [.agg p.enc,.agg c.enc] []=some r:=by
 have hn:=h.len;have hk0:=a3r c.nodes 0;have hk14:=a3r c.nodes 14;have hc0:=λH=>b6l (d:=true) H c h (n:=0) 0 rfl;have hc14:=λH=>b6l (d:=true) H c h (n:=14) 14 rfl;obtain⟨a,a1,a2,ha⟩:=b2m p.ic p.ins hp.inv hp.inl (kinds c.nodes 0).length 4 (by omega) (by omega) (by omega) (by omega);obtain⟨b,b1,b2,hb⟩:=b2m p.sc p.sts hp.stv hp.stl (kinds c.nodes 14).length 3 (by omega) (by omega) (by omega) (by omega);have a2:∀v∈a,v≤3:=λv hv=>by have:=a2 v hv;omega
 have b3:∀v∈b,v≤2:=λv hv=>by have:=b2 v hv;omega
 have b2:∀v∈b,v≤3:=λv hv=>by have:=b2 v hv;omega
 have ha:=λH=>ha true H 4 rfl;have hb:=λH=>hb true H 3 rfl;simp only[Cir.enc]at hc0 hc14;simp only[Cir.enc,Pat.enc];obtain⟨x,a',rfl⟩:∃x a',a=x::a':=by
  cases a with
  |nil=>exact absurd (List.eq_nil_of_length_eq_zero a1.symm) hk
  |cons x r=>exact⟨x,r,rfl⟩
 simp only[List.map_cons,a0b,a0c,List.length_map]at ha
 (refine svE Tryz.f43 ?_;simp only[Tryz.f43,gS])
 cases b with
 |nil=>
  simp only[List.map_nil,a0t,a0u,List.append_nil]at hb
  (repeat first|simp only[ww]|(apply xa;simp+decide only[go_sem,hc0,hc14,ha,hb];rfl;kernel_rfl))
  refine a2v (vs:=[.agg [.slice 3 0 (a'.length+1) none,.nilslice]]) (r:=(.agg [.slice 3 0 (a'.length+1) none,.nilslice],_)) (by simp+decide only[go_sem]<;>rfl) ?_ ⟨_,[],⟨a1,b1,a2,b2⟩,b3,rfl⟩;rfl
 |cons y b'=>
  simp only[List.map_cons,a0b,a0c,List.length_map]at hb
  (repeat first|simp only[ww]|(apply xa;simp+decide only[go_sem,hc0,hc14,ha,hb];rfl;kernel_rfl))
  refine a2v (vs:=[.agg [.slice 3 0 (a'.length+1) none,.slice 4 0 (b'.length+1) none]]) (r:=(.agg [.slice 3 0 (a'.length+1) none,.slice 4 0 (b'.length+1) none],_)) (by simp+decide only[go_sem]<;>rfl) ?_ ⟨_,y::b',⟨a1,b1,a2,b2⟩,b3,by simp only[List.map_cons,a0b,List.length_map];rfl⟩;simp only[ptH,List.map_cons,a0b,a0c,List.length_map];rfl
theorem c8b(c:Cir)(h:c.wf)(hk:kinds c.nodes 0≠[])(p:Pat)(hp:PxOk p):∃a b:List Nat,PatOk c.nodes ⟨none,a,none,b⟩∧(∀v∈b,v≤2)∧∀(d:Bool) (H:a02),a0a L.env d (sem L.env Mf) (.func (.func 43) [] []) [.agg p.enc,.agg c.enc] H=some (.agg [.slice (H.length+3) 0 a.length none,grV (H.length+4) (b.map u8R)],H++ptH H.length p c a b,[]):=by
 obtain⟨r,⟨a,b,h1,h1s,rfl⟩,h2⟩:=d7z c h hk p hp;refine⟨a,b,h1,h1s,λd H=>?_⟩;have hh:=a9g (E:=L.env) (d:=d) (H:=H) (fs:=[]) (cs:=[]) (ar:=[.agg p.enc,.agg c.enc]) (by kernel_rfl) (by kernel_rfl) rfl (by simp only[List.nil_append,List.append_nil,a07,a0s,Cir.enc,Pat.enc,go_sem]) h2;rw[hh];have h3:=λπ=>c1m π a;have h4:=λπ=>c1m π b;have h5:∀(π:Nat→Option Nat) (r:Rep) (rows:List (List AV)),ren π (sl r rows)=sl r rows:=λπ r rows=>a0d π _ (a1b _ _);cases b with
 |nil=>unfold ptH;simp only[List.map_nil,a0t,a0u,List.append_nil,List.map_cons,Option.map_some,a0f,h3,h5,ren,b8u,b4k,Nat.zero_add]<;>rfl
 |cons y b'=>have h6:=h4 (a19 [] H.length);simp only[List.map_cons]at h6;unfold ptH;simp only[List.map_cons,a0b,a0c,List.length_map,List.map_nil,List.cons_append,List.nil_append,Option.map_some,a0f,h3,h5,h6,ren,b8u,b4k,Nat.zero_add]<;>rfl
theorem d94(c:Cir)(h:c.wf)(f:FX)(hf:f.ok)(hm1:f.model%4=1):∃r:AV×a02,(∃nd pin val,FltOk c.nodes ⟨0,nd,pin,val,0⟩∧r=(.agg (Flt.enc ⟨1,nd,pin,val,0⟩),[]))∧sem L.env Mf 20 [.agg f.enc,.agg c.enc] []=some r:=by
 obtain⟨f1,f2,f3,f4⟩:=hf;have hn:=h.len;have hp:=h.pos;have c0:¬(c.nodes.length:Int)=0:=by omega
 have hnd:f.node%c.nodes.length<c.nodes.length:=Nat.mod_lt _ hp;have hot:f.other%c.nodes.length<c.nodes.length:=Nat.mod_lt _ hp;have w1:=wB (n:=f.model%4) (by omega);have w2:=wI (n:=f.node) (by omega);have w3:=wI (n:=f.node%c.nodes.length) (by omega);have w4:=wI (n:=f.other) (by omega);have w5:=wI (n:=f.other%c.nodes.length) (by omega);have w6:=wI (n:=f.pin) (by omega);have hpin:∀x:Nd,x∈c.nodes→IntKind.i64.wrap ((x.ins.length:Int)+1)=((x.ins.length+1:Nat):Int)∧IntKind.i64.wrap ((f.pin%(x.ins.length+1):Nat):Int)=((f.pin%(x.ins.length+1):Nat):Int)∧IntKind.i64.wrap (((f.pin%(x.ins.length+1):Nat):Int)-1)=((f.pin%(x.ins.length+1):Nat):Int)-1∧¬((x.ins.length+1:Nat):Int)=0:=by intro x hx;have:=h.insl hx;have hq:=Nat.mod_lt f.pin (show 0<x.ins.length+1 by omega);generalize f.pin%(x.ins.length+1)=q at hq⊢;exact⟨wI1 (by omega),wI (by omega),w64 (by omega) (by omega),by omega⟩
 generalize hN1:f.node%c.nodes.length=nd at hnd w3;generalize hN2:f.other%c.nodes.length=ot at hot w5;obtain⟨x,hx⟩:∃x,c.nodes[nd]?=some x:=⟨_,z9e hnd⟩
 obtain⟨p1,p2,p3,p4⟩:=hpin x (List.mem_of_getElem? hx);cases ho:f.one
 ·simp only[Cir.enc,FX.enc,ho]
  (refine svE Tryz.f20 ?_;simp only[Tryz.f20,gS])
  (repeat first|simp only[ww]|(apply xa;simp+decide only[go_sem,c0,w1,w2,w3,w6,hN1,hm1,hx,hnd,p1,p2,p3,p4];rfl;kernel_rfl))
  refine a2v (vs:=[.agg (Flt.enc ⟨1,nd,((f.pin%(x.ins.length+1):Nat):Int)-1,0,0⟩)]) (r:=(.agg (Flt.enc ⟨1,nd,((f.pin%(x.ins.length+1):Nat):Int)-1,0,0⟩),[])) (by simp+decide only[go_sem,hm1,hx,hN1,p1,p2,p3,p4]<;>rfl) ?_ ⟨_,_,_,a6d hx (p:=f.pin) (v:=0) (by omega),rfl⟩;simp+decide only[go_sem]
 ·simp only[Cir.enc,FX.enc,ho]
  (refine svE Tryz.f20 ?_;simp only[Tryz.f20,gS])
  (repeat first|simp only[ww]|(apply xa;simp+decide only[go_sem,c0,w1,w2,w3,w6,hN1,hm1,hx,hnd,p1,p2,p3,p4];rfl;kernel_rfl))
  refine a2v (vs:=[.agg (Flt.enc ⟨1,nd,((f.pin%(x.ins.length+1):Nat):Int)-1,1,0⟩)]) (r:=(.agg (Flt.enc ⟨1,nd,((f.pin%(x.ins.length+1):Nat):Int)-1,1,0⟩),[])) (by simp+decide only[go_sem,hm1,hx,hN1,p1,p2,p3,p4]<;>rfl) ?_ ⟨_,_,_,a6d hx (p:=f.pin) (v:=1) (by omega),rfl⟩;simp+decide only[go_sem]
theorem d0a(c:Cir)(h:c.wf)(f:FX)(hf:f.ok)(hm:f.model%4=1):∃nd pin val,FltOk c.nodes ⟨0,nd,pin,val,0⟩∧∀(d:Bool) (H:a02),a0a L.env d (sem L.env Mf) (.func (.func 20) [] []) [.agg f.enc,.agg c.enc] H=some (.agg (Flt.enc ⟨1,nd,pin,val,0⟩),H,[]):=by obtain⟨r,⟨nd,pin,val,h1,rfl⟩,h2⟩:=d94 c h f hf hm;exact⟨nd,pin,val,h1,λd H=>a04 (by kernel_rfl) (by kernel_rfl) rfl (by simp only[a07,a0s,Cir.enc,FX.enc,go_sem]) h2 rfl⟩
end Go.UInst
