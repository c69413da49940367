/- Part of a proof. No condition. -/
import Derived.Test.YtmiegcjnimlbmaaGreatDoorUGa
import Derived.Test.YtmiegcjnimlbmaaGreatDoorPcB
import Derived.Test.YtmiegcjnimlbmaaGreatDoorAxD
set_option linter.unusedSimpArgs false
set_option linter.unusedVariables false
namespace Go.UInst
open Go.Proofs Go.Ax Go.Pc
set_option maxRecDepth 100000
theorem c5y(k:Nat)(hk:k<16):sem L.env Mf 106 [.int .u8 k] []=some (.tuple [.int .i64 (a34 k:Nat),.int .i64 (a2l k:Nat)],[]):=by
 have w:=wI (n:=k) (by omega);have c:¬(16:Int)≤k:=by omega
 have h:k=0∨k=1∨k=2∨k=3∨k=4∨k=5∨k=6∨k=7∨k=8∨k=9∨k=10∨k=11∨k=12∨k=13∨k=14∨k=15:=by omega
 rcases h with rfl|rfl|rfl|rfl|rfl|rfl|rfl|rfl|rfl|rfl|rfl|rfl|rfl|rfl|rfl|rfl
 all_goals
  (refine sv Tryz.f106 ?_;simp only[Tryz.f106,gS])
  (repeat first|simp only[ww]|(apply xa;simp+decide only[go_sem,w,c];rfl;kernel_rfl))
  (apply fqb;simp+decide only[go_sem]<;>rfl)
theorem c0e{d:Bool}(H:a03)(k:Nat)(hk:k<16):a0m L.env d (sem L.env Mf) (.func (.func 106) [] []) [.int .u8 k] H=some (.tuple [.int .i64 (a34 k:Nat),.int .i64 (a2l k:Nat)],H,[]):=a06 (by kernel_rfl) (by kernel_rfl) rfl rfl (c5y k hk) rfl
theorem d05(k:Nat)(hk:k<256):sem L.env Mf 61 [.int .u8 k] []=some (.bool (a1c k),[]):=by
 by_cases h1:1≤k
 ·have c1:(1:Int)≤k:=by omega
  by_cases h2:k≤13
  ·have c2:(k:Int)≤13:=by omega
   rw[show a1c k=true by simp[a1c,h1,h2]]
   (refine sv Tryz.f61 ?_;simp only[Tryz.f61,gS])
   (repeat first|simp only[ww]|(apply xa;simp+decide only[go_sem,c1,c2];rfl;kernel_rfl))
   (apply fqb;simp+decide only[go_sem]<;>rfl)
  ·have c2:¬(k:Int)≤13:=by omega
   rw[show a1c k=false by simp[a1c,h2]]
   (refine sv Tryz.f61 ?_;simp only[Tryz.f61,gS])
   (repeat first|simp only[ww]|(apply xa;simp+decide only[go_sem,c1,c2];rfl;kernel_rfl))
   (apply fqb;simp+decide only[go_sem]<;>rfl)
 ·have c1:¬(1:Int)≤k:=by omega
  rw[show a1c k=false by simp[a1c,h1]]
  (refine sv Tryz.f61 ?_;simp only[Tryz.f61,gS])
  (repeat first|simp only[ww]|(apply xa;simp+decide only[go_sem,c1];rfl;kernel_rfl))
  (apply fqb;simp+decide only[go_sem]<;>rfl)
theorem c9r(k v:Nat):sem L.env Mf 136 [.slice 0 0 1 (some 1),.int .u8 v] [some (.row 1 [[.int .u8 k]])]=some (.int .i64 (if v=k then 0 else -1),[some (.row 1 [[.int .u8 k]])]):=by
 (refine sv Tryz.f136 ?_;simp only[Tryz.f136,gS])
 (repeat first|simp only[ww]|(apply xa;simp+decide only[go_sem];rfl;kernel_rfl))
 refine a0n (σ:=Nat) kp136_0 (λi=>[(0,.slice 0 0 1 (some 1)),(1,.int .u8 v),(7,.int .i64 1),(8,.int .i64 i)])
  (λ_=>[some (.row 1 [[.int .u8 k]])]) (λi=>1-i) (λi=>i≤1∧(i=1→v≠k)) 0 ?_ (by simp) ?_
 ·(simp+decide only[go_sem,a02,a00]<;>rfl)
 ·rintro i ⟨hi,hne⟩
  have hh:i=0∨i=1:=by omega
  rcases hh with rfl|rfl
  ·by_cases h:v=k
   ·subst h
    (repeat first|simp only[ww]|(apply xa;simp+decide only[go_sem,if_pos];rfl;kernel_rfl))
    (apply fqb;simp+decide only[go_sem,if_pos]<;>rfl)
   ·have c:¬(v:Int)=k:=by omega
    (repeat first|simp only[ww]|(apply xa;simp+decide only[go_sem,c];rfl;kernel_rfl))
    refine a1p 1 ?_ (by omega) (by simp[h])
    (simp+decide only[go_sem,a02,a00]<;>rfl)
  ·have h:=hne rfl;have c:¬(v:Int)=k:=by omega
   rw[if_neg h]
   (repeat first|simp only[ww]|(apply xa;simp+decide only[go_sem,c];rfl;kernel_rfl))
   (apply fqb;simp+decide only[go_sem]<;>rfl)
theorem c67(k v:Nat):sem L.env Mf 85 [.slice 0 0 1 (some 1),.int .u8 v] [some (.row 1 [[.int .u8 k]])]=some (.bool (decide (v=k)),[some (.row 1 [[.int .u8 k]])]):=by
 have hc:a0m L.env false (sem L.env Mf) (.func (.func 136) [] []) [.slice 0 0 1 (some 1),.int .u8 v] [some (.row 1 [[.int .u8 k]])]=some (.int .i64 (if v=k then 0 else -1),[some (.row 1 [[.int .u8 k]])],[0]):=a4k (by kernel_rfl) (by kernel_rfl) rfl rfl rfl (FlatO.row (FlatR.cons rfl FlatR.nil)) rfl rfl (c9r k v) rfl;by_cases h:v=k
 ·rw[if_pos h]at hc
  (refine sv Tryz.f85 ?_;simp only[Tryz.f85,gS])
  (repeat first|simp only[ww]|(apply xa;simp+decide only[go_sem,hc];rfl;kernel_rfl))
  (apply fqb;simp+decide only[go_sem,h]<;>rfl)
 ·rw[if_neg h]at hc
  (refine sv Tryz.f85 ?_;simp only[Tryz.f85,gS])
  (repeat first|simp only[ww]|(apply xa;simp+decide only[go_sem,hc];rfl;kernel_rfl))
  (apply fqb;simp+decide only[go_sem,h]<;>rfl)
theorem c0j{d:Bool}(k v:Nat)(X:a03):a0m L.env d (sem L.env Mf) (.func (.func 85) [] []) [.slice 0 0 1 (some 1),.int .u8 v] (some (.row 1 [[.int .u8 k]])::X)=some (.bool (decide (v=k)),some (.row 1 [[.int .u8 k]])::X,[0]):=a4k (by kernel_rfl) (by kernel_rfl) rfl rfl rfl (FlatO.row (FlatR.cons rfl FlatR.nil)) rfl rfl (c67 k v) rfl
def a2v(nodes:List Nd)(k i:Nat):List Nat:=(List.range i).filter λj=>decide (a0v nodes j=k)
theorem b0o(nodes:List Nd)(k i:Nat):a2v nodes k (i+1)=if a0v nodes i=k then a2v nodes k i++[i]else a2v nodes k i:=by unfold a2v;rw[List.range_succ,List.filter_append];by_cases h:a0v nodes i=k<;>simp[h]
theorem b0p(nodes:List Nd)(k i:Nat):(a2v nodes k i).length≤i:=Nat.le_trans (List.length_filter_le _ _) (by simp)
def kinds(nodes:List Nd)(k:Nat):List Nat:=a2v nodes k nodes.length
def c5o(l:List Nat):AV:=sl (match l with|[]=>none|a::r=>some (some (r.length+1))) (l.map a11)
theorem c5n:c5o [] = .nilslice:=by rfl
theorem c2n(a:Nat)(r:List Nat):c5o (a::r) = .islice ((a::r).map a11) (some (r.length+1)):=by rfl
theorem a2g{nodes:List Nd}{i:Nat}{x:Nd}(h:nodes[i]?=some x):a0v nodes i=x.kind:=by simp[a0v,h]
theorem a3t(l:List Nat):(l.map a11).flatMap a0i=[]:=a0d (FlatR.map λ_=>rfl)
theorem a65(π:Nat→Option Nat)(l:List Nat):(l.map a11).map (λr=>r.map (ren π))=l.map a11:=a08 π (FlatR.map λ_=>rfl)
theorem c5u(l:List Nat):FlatR (l.map a11):=FlatR.map λ_=>rfl
theorem d3y{m:Nat}{d:AV→Option AV}(l:List Nat):a6u m d (l.map a11)=some (l.map a11):=a0s m d (FlatR.map λ_=>rfl)
theorem c6b:sem L.env Mf 86 [.nilslice] []=some (.nilslice,[]):=by
 (refine sv Tryz.f86 ?_;simp only[Tryz.f86,gS])
 (repeat first|simp only[ww]|(apply xa;simp+decide only[go_sem];rfl;kernel_rfl))
 (apply fqb;simp+decide only[go_sem]<;>rfl)
theorem d06(n:Nat)(rows:List (List AV))(hf:FlatR rows):sem L.env Mf 86 [.slice 0 0 n none] [some (.row 1 rows)]=some (.slice 0 0 n (some n),[some (.row 1 rows)]):=by
 have h1:=λπ=>a08 π hf
 (refine sv Tryz.f86 ?_;simp only[Tryz.f86,gS])
 (repeat first|simp only[ww]|(apply xa;simp+decide only[go_sem];rfl;kernel_rfl))
 (apply fqb;simp+decide only[go_sem,h1]<;>rfl)
theorem c39{d:Bool}{H:a03}{b n:Nat}{rows:List (List AV)}(hf:FlatR rows)(hb:a01 H b=some (.row 1 rows)):a0m L.env d (sem L.env Mf) (.func (.func 86) [] []) [.slice b 0 n none] H=some (.slice b 0 n (some n),H,[b]):=by have h:=a6v (E:=L.env) (draw:=d) (call:=sem L.env Mf) (g:=86) (fs:=[]) (cs:=[]) (ar:=[.slice b 0 n none]) (H:=H) (b:=b) (by kernel_rfl) (by kernel_rfl) rfl hb (a2d hf) (FlatO.row hf) rfl (args':=[AV.slice 0 0 n none]) (by simp only[List.nil_append,List.append_nil,List.map_cons,List.map_nil,a43]) (d06 n rows hf) (FlatO.row hf) (a5p b 0 _ n _);rw[a9l hb]at h;exact h
theorem d3e(c:Cir)(k:Nat)(hl:c.nodes.length<1000000):sem L.env Mf 35 [.agg c.enc,.slice 0 0 1 (some 1)] [some (.row 1 [[.int .u8 k]])]=some (c5o (kinds c.nodes k),[some (.row 1 [[.int .u8 k]])]):=by
 have hck:=λv X=>c0j (d:=false) k v X
 (refine sv Tryz.f35 ?_;simp only[Tryz.f35,gS])
 (repeat first|simp only[ww]|(apply xa;simp+decide only[go_sem,Cir.enc];rfl;kernel_rfl))
 refine a0n (σ:=Nat) kp35_0 (λi=>[(1,.slice 0 0 1 (some 1)),(5,grV 1 ((a2v c.nodes k i).map a11)),(9,sl c.nc (c.nodes.map Nd.enc)),(10,.int .i64 c.nodes.length),(11,.int .i64 i)])
  (λi=>some (.row 1 [[.int .u8 k]])::grH 1 ((a2v c.nodes k i).map a11)) (λi=>c.nodes.length-i) (λi=>i≤c.nodes.length) 0 ?_ (Nat.zero_le _) ?_
 ·have e:a2v c.nodes k 0=[]:=rfl
  (simp+decide only[go_sem,a02,a00,e,List.map_nil,a0x,a0y]<;>rfl)
 ·intro i hi;by_cases hlt:i<c.nodes.length
  ·obtain⟨x,hx⟩:∃x,c.nodes[i]?=some x:=⟨_,z9e hlt⟩
   have c1:(i:Int)<c.nodes.length:=by omega
   have hw:=wI1 (n:=i) (by omega);have hs:=b0o c.nodes k i;rw[a2g hx]at hs;have hle:=b0p c.nodes k i;have hrm:(a2v c.nodes k i).length+1≤1000000000:=by omega
   by_cases hk:x.kind=k
   ·rw[if_pos hk]at hs;generalize a2v c.nodes k i=l at hs hle hrm;cases l with
    |nil=>
     (repeat first|simp only[ww]|(apply xa;simp+decide only[go_sem,c1,hlt,hx,hw,hck,hk,List.map_nil,a0x,a0y];rfl;kernel_rfl))
     refine a1p (i+1) ?_ (by omega) (by omega);rw[hs]
     (simp+decide only[go_sem,a02,a00,List.map_nil,List.nil_append,List.map_cons,a0b,a0c,List.length_nil]<;>rfl)
    |cons a r=>
     simp only[List.length_cons]at hrm
     (repeat first|simp only[ww]|(apply xa;simp+decide only[go_sem,c1,hlt,hx,hw,hck,hk,List.map_cons,a0b,a0c,hrm,List.length_cons];rfl;kernel_rfl))
     refine a1p (i+1) ?_ (by omega) (by omega);rw[hs]
     (simp+decide only[go_sem,a02,a00,List.cons_append,List.map_cons,a0b,a0c,a3t,a65,List.length_cons]<;>rfl)
   ·rw[if_neg hk]at hs;have hk':¬(x.kind:Int)=k:=by omega
    generalize a2v c.nodes k i=l at hs hle hrm;cases l with
    |nil=>
     (repeat first|simp only[ww]|(apply xa;simp+decide only[go_sem,c1,hlt,hx,hw,hck,hk,List.map_nil,a0x,a0y];rfl;kernel_rfl))
     refine a1p (i+1) ?_ (by omega) (by omega);rw[hs]
     (simp+decide only[go_sem,a02,a00,List.map_nil,a0x,a0y]<;>rfl)
    |cons a r=>
     (repeat first|simp only[ww]|(apply xa;simp+decide only[go_sem,c1,hlt,hx,hw,hck,hk,List.map_cons,a0b,a0c];rfl;kernel_rfl))
     refine a1p (i+1) ?_ (by omega) (by omega);rw[hs]
     (simp+decide only[go_sem,a02,a00,List.map_cons,a0b,a0c,a3t,a65]<;>rfl)
  ·obtain rfl:i=c.nodes.length:=by omega
   have c1:¬(c.nodes.length:Int)<c.nodes.length:=by omega
   unfold kinds;generalize a2v c.nodes k c.nodes.length=l;cases l with
   |nil=>
    have hcl:=λH=>a06 (E:=L.env) (draw:=false) (call:=sem L.env Mf) (g:=86) (fs:=[]) (cs:=[]) (ar:=[.nilslice]) (H:=H) (by kernel_rfl) (by kernel_rfl) rfl rfl c6b rfl
    (repeat first|simp only[ww]|(apply xa;simp+decide only[go_sem,c1,List.map_nil,a0x,a0y,hcl];rfl;kernel_rfl))
    (apply fqb;simp+decide only[go_sem,c5n]<;>rfl)
   |cons a r=>
    have hcl:=c39 (d:=false) (H:=[some (.row 1 [[.int .u8 k]]),some (.row 1 ((a::r).map a11))]) (b:=1) (n:=r.length+1) (c5u _) rfl;simp only[List.map_cons,go_sem]at hcl
    (repeat first|simp only[ww]|(apply xa;simp+decide only[go_sem,c1,List.map_cons,a0b,a0c,List.length_map,hcl];rfl;kernel_rfl))
    (apply fqb;simp+decide only[go_sem,c2n,List.map_cons,d3y,List.length_cons]<;>rfl)
theorem c91(π:Nat→Option Nat)(c:Cir):ren π (.agg c.enc) = .agg c.enc:=a3k π _ (by simp only[a1o,Cir.enc,go_sem])
theorem b59(l:List Nat):refs (c5o l)=[]:=a1b _ _
theorem b8i{d:Bool}{H:a03}{b:Nat}(c:Cir){k:Nat}{n:Int}(hn:n=k)(hl:c.nodes.length<1000000)(hb:a01 H b=some (.row 1 [[.int .u8 n]])) :
 a0m L.env d (sem L.env Mf) (.func (.func 35) [] []) [.agg c.enc,.slice b 0 1 (some 1)] H=some (c5o (kinds c.nodes k),H,[b]):=by
 subst hn;exact a4k (E:=L.env) (draw:=d) (call:=sem L.env Mf) (g:=35) (fs:=[]) (cs:=[]) (ar:=[.agg c.enc,.slice b 0 1 (some 1)]) (H:=H) (b:=b) (by kernel_rfl) (by kernel_rfl) rfl hb rfl (FlatO.row (FlatR.cons rfl FlatR.nil)) (by simp only[List.nil_append,List.append_nil,a0h,a1o,Cir.enc,go_sem]) (args':=[.agg c.enc,.slice 0 0 1 (some 1)]) (by simp only[List.nil_append,List.append_nil,List.map_cons,List.map_nil,a43,c91]) (d3e c k hl) (b59 _)
theorem a8g(l:List Nat):∃r,c5o l=sl r (l.map a11):=⟨_,rfl⟩
theorem c2j(c:Cir)(hl:c.nodes.length<1000000):sem L.env Mf 13 [.agg c.enc] []=some (c5o (kinds c.nodes 0),[]):=by
 have hc:=λX=>b8i (d:=false) (H:=[X,some (.row 1 [[.int .u8 0]])]) (b:=1) c (k:=0) rfl hl rfl;obtain⟨r,hr⟩:=a8g (kinds c.nodes 0);rw[hr]at hc⊢;simp only[Cir.enc]at hc⊢
 (refine sv Tryz.f13 ?_;simp only[Tryz.f13,gS])
 (repeat first|simp only[ww]|(apply xa;simp+decide only[go_sem,hc];rfl;kernel_rfl))
 (apply fqb;simp+decide only[go_sem]<;>rfl)
theorem a4i{d:Bool}(H:a03)(c:Cir)(hl:c.nodes.length<1000000):a0m L.env d (sem L.env Mf) (.func (.func 13) [] []) [.agg c.enc] H=some (c5o (kinds c.nodes 0),H,[]):=a06 (by kernel_rfl) (by kernel_rfl) rfl (by simp only[a0h,a1o,Cir.enc,go_sem]) (c2j c hl) (b59 _)
def b9w(c:Cir):AV:=.func (.func 211) [] [.iptr c.enc]
theorem c1q(c:Cir):refs (b9w c)=[]:=by rfl
theorem b9v(c:Cir):sem L.env Mf 175 [.agg c.enc] []=some (b9w c,[]):=by
 unfold b9w;simp only[Cir.enc]
 (refine sv Tryz.f175 ?_;simp only[Tryz.f175,gS])
 (repeat first|simp only[ww]|(apply xa;simp+decide only[go_sem];rfl;kernel_rfl))
 (apply fqb;simp+decide only[go_sem]<;>rfl)
theorem a66{d:Bool}(H:a03)(c:Cir):a0m L.env d (sem L.env Mf) (.func (.func 175) [] []) [.agg c.enc] H=some (b9w c,H,[]):=a06 (by kernel_rfl) (by kernel_rfl) rfl (by simp only[a0h,a1o,Cir.enc,go_sem]) (b9v c) rfl
theorem c98(c:Cir)(m:Nat)(hm:m<c.nodes.length):sem L.env Mf 211 [.int .i64 m,.iptr c.enc] []=some (.bool false,[]):=by
 have c1:¬(m:Int)<0:=by omega
 have c2:¬(c.nodes.length:Int)≤m:=by omega
 simp only[Cir.enc]
 (refine sv Tryz.f211 ?_;simp only[Tryz.f211,gS])
 (repeat first|simp only[ww]|(apply xa;simp+decide only[go_sem,c1,c2];rfl;kernel_rfl))
 (apply fqb;simp+decide only[go_sem]<;>rfl)
theorem b5e{d:Bool}(H:a03)(c:Cir)(m:Nat)(hm:m<c.nodes.length):a0m L.env d (sem L.env Mf) (b9w c) [.int .i64 m] H=some (.bool false,H,[]):=a06 (by kernel_rfl) (by kernel_rfl) rfl (by simp only[a0h,Cir.enc,go_sem]) (c98 c m hm) rfl
theorem c2m(r:Rep)(l:List Nat)(f:AV)(hf:refs f=[])(hl:l.length<1000000)(hc:∀m∈l,a0m L.env false (sem L.env Mf) f [.int .i64 m] []=some (.bool false,[],[])) :
 sem L.env Mf 210 [sl r (l.map a11),f] []=some (.int .i64 (-1),[]):=by
 have hr:∀π,ren π f=f:=λπ=>a3k π f hf
 (refine sv Tryz.f210 ?_;simp only[Tryz.f210,gS])
 (repeat first|simp only[ww]|(apply xa;simp+decide only[go_sem];rfl;kernel_rfl))
 refine a0n (σ:=Nat) kp210_0 (λi=>[(0,sl r (l.map a11)),(1,f),(7,.int .i64 l.length),(8,.int .i64 i)])
  (λ_=>[]) (λi=>l.length-i) (λi=>i≤l.length) 0 ?_ (Nat.zero_le _) ?_
 ·(simp+decide only[go_sem,a02,a00,hf,hr]<;>rfl)
 ·intro i hi;by_cases hlt:i<l.length
  ·obtain⟨x,hx⟩:∃x,l[i]?=some x:=⟨_,z9e hlt⟩
   have c1:(i:Int)<l.length:=by omega
   have hw:=wI1 (n:=i) (by omega);have hcx:=hc x (List.mem_of_getElem? hx)
   (repeat first|simp only[ww]|(apply xa;simp+decide only[go_sem,c1,hlt,hx,hw,hcx];rfl;kernel_rfl))
   refine a1p (i+1) ?_ (by omega) (by omega)
   (simp+decide only[go_sem,a02,a00,hf,hr]<;>rfl)
  ·obtain rfl:i=l.length:=by omega
   have c1:¬(l.length:Int)<l.length:=by omega
   (repeat first|simp only[ww]|(apply xa;simp+decide only[go_sem,c1];rfl;kernel_rfl))
   (apply fqb;simp+decide only[go_sem]<;>rfl)
theorem c0k(r:Rep)(l:List Nat)(f:AV)(hf:refs f=[])(hl:l.length<1000000)(hc:∀m∈l,a0m L.env false (sem L.env Mf) f [.int .i64 m] []=some (.bool false,[],[])) :
 sem L.env Mf 174 [sl r (l.map a11),f] []=some (.bool false,[]):=by
 have h:=λH=>a06 (E:=L.env) (draw:=false) (call:=sem L.env Mf) (g:=210) (fs:=[]) (cs:=[]) (ar:=[sl r (l.map a11),f]) (H:=H) (by kernel_rfl) (by kernel_rfl) rfl (by simp only[List.nil_append,List.append_nil,a0h,hf,go_sem]) (c2m r l f hf hl hc) rfl;have c1:¬(0:Int)≤ -1:=by omega
 (refine sv Tryz.f174 ?_;simp only[Tryz.f174,gS])
 (repeat first|simp only[ww]|(apply xa;simp+decide only[go_sem,h,c1];rfl;kernel_rfl))
 (apply fqb;simp+decide only[go_sem]<;>rfl)
theorem b60{d:Bool}(H:a03)(c:Cir)(r:Rep)(l:List Nat)(hl:l.length<1000000)(h:∀m∈l,m<c.nodes.length) :
 a0m L.env d (sem L.env Mf) (.func (.func 174) [] []) [sl r (l.map a11),b9w c] H=some (.bool false,H,[]):=
 a06 (by kernel_rfl) (by kernel_rfl) rfl (by simp only[List.nil_append,List.append_nil,a0h,c1q,go_sem]) (c0k r l (b9w c) rfl hl (λm hm=>b5e [] c m (h m hm))) rfl
/- the drivers of a bus -/
theorem c4y(c:Cir)(m:Nat)(hm:m<c.nodes.length)(hk:a0v c.nodes m=12):sem L.env Mf 206 [.int .i64 m,.ptr 0 0 0] [some (.row 4 [c.enc])]=some (.bool false,[some (.row 4 [c.enc])]):=by
 obtain⟨x,hx⟩:∃x,c.nodes[m]?=some x:=⟨_,z9e hm⟩
 rw[a2g hx]at hk;simp only[Cir.enc]
 (refine sv Tryz.f206 ?_;simp only[Tryz.f206,gS])
 (repeat first|simp only[ww]|(apply xa;simp+decide only[go_sem,hx,hk,hm];rfl;kernel_rfl))
 (apply fqb;simp+decide only[go_sem]<;>rfl)
theorem a57(c:Cir):FlatR [c.enc]:=FlatR.cons (by simp only[Cir.enc,go_sem]) FlatR.nil
theorem b9x{d:Bool}(H:a03)(c:Cir)(b m:Nat)(hb:a01 H b=some (.row 4 [c.enc]))(hm:m<c.nodes.length)(hk:a0v c.nodes m=12):a0m L.env d (sem L.env Mf) (.func (.func 206) [] [.ptr b 0 0]) [.int .i64 m] H=some (.bool false,H,[b]):=a4k (fs:=[]) (cs:=[.ptr b 0 0]) (ar:=[.int .i64 m]) (by kernel_rfl) (by kernel_rfl) rfl hb (a2d (a57 c)) (FlatO.row (a57 c)) rfl (args':=[.int .i64 m,.ptr 0 0 0]) (by simp[ren,b09]) (c4y c m hm hk) rfl
theorem c06(r:Rep)(l:List Nat)(c:Cir)(hl:l.length<1000000)(hc:∀m∈l,m<c.nodes.length∧a0v c.nodes m=12) :
 sem L.env Mf 210 [sl r (l.map a11),.func (.func 206) [] [.ptr 0 0 0]] [some (.row 4 [c.enc])]=some (.int .i64 (-1),[some (.row 4 [c.enc])]):=by
 have hfl:a0i c.enc=[]:=by simp only[Cir.enc,go_sem]
 have hrn:∀π,c.enc.map (ren π)=c.enc:=λπ=>a32 π hfl;have hcall:=λm h1 h2=>b9x (d:=false) [some (.row 4 [c.enc])] c 0 m rfl h1 h2;generalize he:c.enc=E at hfl hrn hcall
 (refine sv Tryz.f210 ?_;simp only[Tryz.f210,gS])
 (repeat first|simp only[ww]|(apply xa;simp+decide only[go_sem];rfl;kernel_rfl))
 refine a0n (σ:=Nat) kp210_0 (λi=>[(0,sl r (l.map a11)),(1,.func (.func 206) [] [.ptr 0 0 0]),(7,.int .i64 l.length),(8,.int .i64 i)])
  (λ_=>[some (.row 4 [E])]) (λi=>l.length-i) (λi=>i≤l.length) 0 ?_ (Nat.zero_le _) ?_
 ·(simp+decide only[go_sem,a02,a00,hfl,hrn]<;>rfl)
 ·intro i hi;by_cases hlt:i<l.length
  ·obtain⟨x,hx⟩:∃x,l[i]?=some x:=⟨_,z9e hlt⟩
   have c1:(i:Int)<l.length:=by omega
   have hw:=wI1 (n:=i) (by omega);have hcx:=hcall x (hc x (List.mem_of_getElem? hx)).1 (hc x (List.mem_of_getElem? hx)).2
   (repeat first|simp only[ww]|(apply xa;simp+decide only[go_sem,c1,hlt,hx,hw,hcx];rfl;kernel_rfl))
   refine a1p (i+1) ?_ (by omega) (by omega)
   (simp+decide only[go_sem,a02,a00,hfl,hrn]<;>rfl)
  ·obtain rfl:i=l.length:=by omega
   have c1:¬(l.length:Int)<l.length:=by omega
   (repeat first|simp only[ww]|(apply xa;simp+decide only[go_sem,c1];rfl;kernel_rfl))
   (apply fqb;simp+decide only[go_sem,hrn]<;>rfl)
theorem b61(r:Rep)(l:List Nat)(c:Cir)(hl:l.length<1000000)(hc:∀m∈l,m<c.nodes.length∧a0v c.nodes m=12) :
 sem L.env Mf 174 [sl r (l.map a11),.func (.func 206) [] [.ptr 0 0 0]] [some (.row 4 [c.enc])]=some (.bool false,[some (.row 4 [c.enc])]):=by
 have h:=a4k (E:=L.env) (draw:=false) (call:=sem L.env Mf) (g:=210) (fs:=[]) (cs:=[]) (ar:=[sl r (l.map a11),.func (.func 206) [] [.ptr 0 0 0]]) (H:=[some (.row 4 [c.enc])]) (b:=0) (by kernel_rfl) (by kernel_rfl) rfl rfl (a2d (a57 c)) (FlatO.row (a57 c)) (by simp only[List.nil_append,List.append_nil,a0h,go_sem]) (by simp only[List.nil_append,List.append_nil,List.map_cons,List.map_nil,c7i];simp[ren,b71,b09]) (c06 r l c hl hc) rfl;have c1:¬(0:Int)≤ -1:=by omega
 have hfl:a0i c.enc=[]:=by simp only[Cir.enc,go_sem]
 have hrn:∀π,c.enc.map (ren π)=c.enc:=λπ=>a32 π hfl;generalize he:c.enc=E at hfl hrn h
 (refine sv Tryz.f174 ?_;simp only[Tryz.f174,gS])
 (repeat first|simp only[ww]|(apply xa;simp+decide only[go_sem,h,c1];rfl;kernel_rfl))
 (apply fqb;simp+decide only[go_sem,hrn]<;>rfl)
theorem b7n{d:Bool}{H:a03}{b:Nat}(c:Cir)(r:Rep)(l:List Nat)(hl:l.length<1000000)(hc:∀m∈l,m<c.nodes.length∧a0v c.nodes m=12)(hb:a01 H b=some (.row 4 [c.enc])) :
 a0m L.env d (sem L.env Mf) (.func (.func 174) [] []) [sl r (l.map a11),.func (.func 206) [] [.ptr b 0 0]] H=some (.bool false,H,[b]):=
 a4k (fs:=[]) (cs:=[]) (ar:=[sl r (l.map a11),.func (.func 206) [] [.ptr b 0 0]]) (by kernel_rfl) (by kernel_rfl) rfl hb (a2d (a57 c)) (FlatO.row (a57 c)) (by simp only[List.nil_append,List.append_nil,a0h,go_sem]) (by simp only[List.nil_append,List.append_nil,List.map_cons,List.map_nil,c7i];simp[ren,b71,b09]) (b61 r l c hl hc) rfl
theorem d4i(c:Cir)(x:Nd)(hm:x.mem=0∧x.bit=0)(hk:x.kind≤14):sem L.env Mf 207 [.agg c.enc,.agg x.enc] []=some (.bool true,[]):=by
 have c1:¬(x.kind:Int)=15:=by omega
 obtain⟨m1,m2⟩:=hm;simp only[Cir.enc,Nd.enc,m1,m2]
 (refine sv Tryz.f207 ?_;simp only[Tryz.f207,gS])
 (repeat first|simp only[ww]|(apply xa;simp+decide only[go_sem,c1];rfl;kernel_rfl))
 (apply fqb;simp+decide only[go_sem]<;>rfl)
theorem c6m{d:Bool}(H:a03)(c:Cir)(x:Nd)(hm:x.mem=0∧x.bit=0)(hk:x.kind≤14):a0m L.env d (sem L.env Mf) (.func (.func 207) [] []) [.agg c.enc,.agg x.enc] H=some (.bool true,H,[]):=a06 (by kernel_rfl) (by kernel_rfl) rfl (by simp only[a0h,a1o,Cir.enc,go_sem]) (d4i c x hm hk) rfl
theorem c9e(c:Cir)(h:c.wf)(x:Nd)(hx:x∈c.nodes):sem L.env Mf 171 [.agg c.enc,.agg x.enc] []=some (.int .i64 0,[]):=by
 have k14:=h.kind x hx;have hlo:=h.lo x hx;have hhi:=h.hi x hx;have hlen:x.ins.length<1000000:=by
  have:a2l x.kind≤16:=by
   have hk:x.kind=0∨x.kind=1∨x.kind=2∨x.kind=3∨x.kind=4∨x.kind=5∨x.kind=6∨x.kind=7∨x.kind=8∨x.kind=9∨x.kind=10∨x.kind=11∨x.kind=12∨x.kind=13∨x.kind=14:=by omega
   rcases hk with e|e|e|e|e|e|e|e|e|e|e|e|e|e|e<;>rw[e]<;>decide
  omega
 have hf:=λH=>c0e (d:=false) H x.kind (by omega);have ho:=λH=>a66 (d:=true) H c;have hc:=λH=>b60 (d:=true) H c x.c x.ins hlen (h.ins x hx);have hb:=λH=>c6m (d:=false) H c x (h.mem x hx) k14;have c1:¬(15:Int)<x.kind:=by omega
 have c2:¬(x.ins.length:Int)<a34 x.kind:=by omega
 have c3:¬(a2l x.kind:Int)<x.ins.length:=by omega
 have hfl:a0i c.enc=[]:=by simp only[Cir.enc,go_sem]
 by_cases hk:x.kind=13
 ·have hoth:=λ(X:Option AObj)=>b7n (d:=false) (H:=[some (.row 4 [c.enc]),X]) (b:=0) c x.c x.ins hlen (λm hm=>⟨h.ins x hx m hm,h.bus x hx hk m hm⟩) rfl;have ck:decide ((x.kind:Int)=13)=true:=decide_eq_true (by omega);simp only[Cir.enc,Nd.enc]at ho hc hb hoth⊢
  (refine sv Tryz.f171 ?_;simp only[Tryz.f171,gS])
  (repeat first|simp only[ww]|(apply xa;simp+decide only[go_sem,hf,c1,c2,c3,ho,hc,hb,hoth,ck];rfl;kernel_rfl))
  (apply fqb;simp+decide only[go_sem]<;>rfl)
 ·have ck:¬(x.kind:Int)=13:=by omega
  simp only[Cir.enc,Nd.enc]at ho hc hb⊢
  (refine sv Tryz.f171 ?_;simp only[Tryz.f171,gS])
  (repeat first|simp only[ww]|(apply xa;simp+decide only[go_sem,hf,c1,c2,c3,ho,hc,hb,ck];rfl;kernel_rfl))
  (apply fqb;simp+decide only[go_sem]<;>rfl)
theorem c1w{d:Bool}(H:a03)(c:Cir)(h:c.wf)(x:Nd)(hx:x∈c.nodes):a0m L.env d (sem L.env Mf) (.func (.func 171) [] []) [.agg c.enc,.agg x.enc] H=some (.int .i64 0,H,[]):=a06 (by kernel_rfl) (by kernel_rfl) rfl (by simp only[a0h,a1o,Cir.enc,go_sem]) (c9e c h x hx) rfl
theorem c2c(i:Nat)(hi:i<14):sem L.env Mf 208 [.str (a1n i)] []=some (.bool true,[]):=by
 have h:i=0∨i=1∨i=2∨i=3∨i=4∨i=5∨i=6∨i=7∨i=8∨i=9∨i=10∨i=11∨i=12∨i=13:=by omega
 rcases h with rfl|rfl|rfl|rfl|rfl|rfl|rfl|rfl|rfl|rfl|rfl|rfl|rfl|rfl
 ·exact c5k
 ·exact c5j
 ·exact c5i
 ·exact c5h
 ·exact c5g
 ·exact c5f
 ·exact c5e
 ·exact c5d
 ·exact c5c
 ·exact c5b
 ·exact c2g
 ·exact c2f
 ·exact c2e
 ·exact c2d
theorem b7d{d:Bool}(H:a03)(i:Nat)(hi:i<14):a0m L.env d (sem L.env Mf) (.func (.func 208) [] []) [.str (a1n i)] H=some (.bool true,H,[]):=a06 (by kernel_rfl) (by kernel_rfl) rfl rfl (c2c i hi) rfl
def a67(i:Nat):List AV:=(List.range i).map λj=>.str (a1n j)
theorem b75(i:Nat):a67 (i+1)=a67 i++[.str (a1n i)]:=by unfold a67;rw[List.range_succ,List.map_append];rfl
theorem eqS(a b:List UInt8):aeq L.env 6 9 (.str a) (.str b)=some (a==b):=by kernel_rfl
theorem b5h{i j:Nat}(hi:i<14)(hj:j<14)(h:a1n i=a1n j):i=j:=by unfold a1n at h;simp only[List.cons.injEq,and_true,true_and]at h;have h1:=congrArg UInt8.toNat h.1;have h2:=congrArg UInt8.toNat h.2;simp only[UInt8.toNat_ofNat']at h1 h2;omega
theorem c30(s:Nat)(hs:s<14):∀(l:List Nat) (b:Nat),(∀j∈l,j<s)→a17 (aeq L.env 6 9) (.str (a1n s)) (l.map λj=>.str (a1n j)) b=some none
 | [],b,_=>rfl
 |j::l,b,h=>by
  have hne:(a1n s==a1n j)=false:=by rw[beq_eq_false_iff_ne];intro e;have:=b5h hs (by have:=h j (by simp);omega) e;have:=h j (by simp);omega
  simp only[List.map_cons,a17,eqS,hne,cond_false];exact c30 s hs l (b+1) (λj hj=>h j (by simp[hj]))
theorem c20(i:Nat)(hi:i<14):a17 (aeq L.env 6 9) (.str (a1n i)) (a67 i) 0=some none:=c30 i hi _ 0 (λj hj=>by simpa using hj)
def nmO(i:Nat):AObj:=.map (a67 i) (List.replicate i (.bool true)) (List.range i) i
theorem c1z(i:Nat)(hi:i<14):a4l L.env (a01 [some (nmO i)]) 122 (.map 0) (.str (a1n i)) false=some (.bool false):=by
 have h:=c20 i hi;have e:a4l L.env (a01 [some (nmO i)]) 122 (.map 0) (.str (a1n i)) false=match a17 (aeq L.env 6 9) (.str (a1n i)) (a67 i) 0 with
  |some (some j)=>match(List.replicate i (AV.bool true))[j]? with
   |some v=>some (bif false then .tuple [v,.bool true]else v)
   |none=>none
  |some none=>some (.bool false)
  |none=>none:=by kernel_rfl
 rw[e,h]
theorem c1y(i:Nat)(hi:i<14):a19 L.env (a01 [some (nmO i)]) 122 (.map 0) (.str (a1n i)) (.bool true)=some (.set 0 (nmO (i+1))):=by
 have h:=c20 i hi;unfold a19;have e:a6z L.env (a01 [some (nmO i)]) 122 (.map 0) (.str (a1n i))=match a17 (aeq L.env 6 9) (.str (a1n i)) (a67 i) 0 with
  |some (some j)=>match(a67 i)[j]? with
   |some k0=>bif c6o k0 (.str (a1n i))then some (0,a67 i,List.replicate i (AV.bool true),List.range i,i,some j)else none
   |none=>none
  |some none=>some (0,a67 i,List.replicate i (AV.bool true),List.range i,i,none)
  |none=>none:=by kernel_rfl
 rw[e,h];simp only[nmO,b75,List.range_succ,List.replicate_succ']
theorem b74(i:Nat):a15 (some (nmO i))=[]:=by
 simp only[nmO,a15,a67];have h1:∀l:List Nat,a0i (l.map λj=>AV.str (a1n j))=[]:=by intro l;induction l with|nil=>rfl|cons a l ih=>simp[a0i,refs,ih]
 have h2:∀n,a0i (List.replicate n (AV.bool true))=[]:=by intro n;induction n with|zero=>rfl|succ n ih=>simp[List.replicate_succ,a0i,refs,ih]
 rw[h1,h2];rfl
theorem c7o(π:Nat→Option Nat)(i:Nat):a0j π (nmO i)=nmO i:=by have h:=b74 i;simp only[nmO,a15,List.append_eq_nil_iff]at h;simp only[nmO,a0j,a32 π h.1,a32 π h.2]
theorem c54(c:Cir)(h:c.wf):sem L.env Mf 172 [.agg c.enc] []=some (.int .i64 0,[]):=by
 have hn:=h.len;have hnm:c.names.length=c.nodes.length:=by rw[h.names];simp
 simp only[Cir.enc]
 (refine sv Tryz.f172 ?_;simp only[Tryz.f172,gS])
 (repeat first|simp only[ww]|(apply xa;simp+decide only[go_sem];rfl;kernel_rfl))
 have e0:AObj.map [] [] [] 0=nmO 0:=by rfl
 refine a0n (σ:=Nat) kp172_0 (λi=>[(3,.map 0),(8,sl c.mc (c.names.map a39)),(9,.int .i64 c.names.length),(10,.int .i64 i)])
  (λi=>[some (nmO i)]) (λi=>c.names.length-i) (λi=>i≤c.names.length) 0 ?_ (Nat.zero_le _) ?_
 ·rw[e0]
  (simp+decide only[go_sem,a02,a00,b74,c7o]<;>rfl)
 ·intro i hi;by_cases hlt:i<c.names.length
  ·have hx:c.names[i]?=some (a1n i):=by rw[h.names,List.getElem?_map,List.getElem?_range (by omega)];rfl
   have c1:(i:Int)<c.names.length:=by omega
   have hw:=wI1 (n:=i) (by omega);have hcn:=λH=>b7d (d:=false) H i (by omega);have hlk:=c1z i (by omega);have hup:=c1y i (by omega)
   (repeat first|simp only[ww]|(apply xa;simp+decide only[go_sem,c1,hlt,hx,hw,hcn,hlk,hup];rfl;kernel_rfl))
   refine a1p (i+1) ?_ (by omega) (by omega)
   (simp+decide only[go_sem,a02,a00,b74,c7o]<;>rfl)
  ·obtain rfl:i=c.names.length:=by omega
   have c1:¬(c.names.length:Int)<c.names.length:=by omega
   (repeat first|simp only[ww]|(apply xa;simp+decide only[go_sem,c1];rfl;kernel_rfl))
   (apply fqb;simp+decide only[go_sem]<;>rfl)
theorem a55(c:Cir):a0i [.agg c.enc]=[]:=by simp only[a0h,a1o,Cir.enc,go_sem]
theorem b9y{d:Bool}(H:a03)(c:Cir)(h:c.wf):a0m L.env d (sem L.env Mf) (.func (.func 172) [] []) [.agg c.enc] H=some (.int .i64 0,H,[]):=a06 (by kernel_rfl) (by kernel_rfl) rfl (a55 c) (c54 c h) rfl
theorem c4m(c:Cir)(h:c.wf):sem L.env Mf 134 [.agg c.enc] []=some (.int .i64 0,[]):=by
 have hn:=h.len;have hnm:c.names.length=c.nodes.length:=by rw[h.names];simp
 have hol:=h.outl;have c1:¬(16384:Int)<c.nodes.length:=by omega
 have c2:¬(16384:Int)<c.outs.length:=by omega
 have hno:=λH x hx=>c1w (d:=false) H c h x hx;have hna:=λH=>b9y (d:=false) H c h;have hou:=λH=>a66 (d:=true) H c;have hcf:=λH=>b60 (d:=true) H c c.oc c.outs (by omega) h.outs;have hlen:c.enc.length=4:=rfl;simp only[Cir.enc]at hno hna hou hcf⊢
 (refine sv Tryz.f134 ?_;simp only[Tryz.f134,gS])
 (repeat first|simp only[ww]|(apply xa;simp+decide only[go_sem,c1,c2,hnm];rfl;kernel_rfl))
 refine a0n (σ:=Nat) kp134_1 (λi=>[(1,.ptr 0 0 0),(36,sl c.nc (c.nodes.map Nd.enc)),(37,.int .i64 c.nodes.length),(38,.int .i64 i)])
  (λi=>[some (.row 4 [[sl c.nc (c.nodes.map Nd.enc),sl c.mc (c.names.map a39),.nilslice,sl c.oc (c.outs.map a11)]])]) (λi=>c.nodes.length-i) (λi=>i≤c.nodes.length) 0 ?_ (Nat.zero_le _) ?_
 ·(simp+decide only[go_sem,a02,a00]<;>rfl)
 ·intro i hi;by_cases hlt:i<c.nodes.length
  ·obtain⟨x,hx⟩:∃x,c.nodes[i]?=some x:=⟨_,z9e hlt⟩
   have c1:(i:Int)<c.nodes.length:=by omega
   have hw:=wI1 (n:=i) (by omega);have hcx:=λH=>hno H x (List.mem_of_getElem? hx);simp only[Nd.enc]at hcx
   (repeat first|simp only[ww]|(apply xa;simp+decide only[go_sem,c1,hlt,hx,hw,hcx];rfl;kernel_rfl))
   refine a1p (i+1) ?_ (by omega) (by omega)
   (simp+decide only[go_sem,a02,a00]<;>rfl)
  ·obtain rfl:i=c.nodes.length:=by omega
   have c1:¬(c.nodes.length:Int)<c.nodes.length:=by omega
   (repeat first|simp only[ww]|(apply xa;simp+decide only[go_sem,c1,hna];rfl;kernel_rfl))
   refine a0n (σ:=Nat) kp134_3 (λi=>[(1,.ptr 0 0 0),(55,.nilslice),(56,.int .i64 0),(57,.int .i64 0)])
    (λi=>[some (.row 4 [[sl c.nc (c.nodes.map Nd.enc),sl c.mc (c.names.map a39),.nilslice,sl c.oc (c.outs.map a11)]])]) (λi=>0) (λi=>True) 0 ?_ trivial ?_
   ·(simp+decide only[go_sem,a02,a00]<;>rfl)
   ·intro i _
    (repeat first|simp only[ww]|(apply xa;simp+decide only[go_sem,hou,hcf];rfl;kernel_rfl))
    (apply fqb;simp+decide only[go_sem]<;>rfl)
theorem b9l{d:Bool}(H:a03)(c:Cir)(h:c.wf):a0m L.env d (sem L.env Mf) (.func (.func 134) [] []) [.agg c.enc] H=some (.int .i64 0,H,[]):=a06 (by kernel_rfl) (by kernel_rfl) rfl (a55 c) (c4m c h) rfl
theorem b63{d:Bool}(H:a03)(k:Nat)(hk:k<256):a0m L.env d (sem L.env Mf) (.func (.func 61) [] []) [.int .u8 k] H=some (.bool (a1c k),H,[]):=a06 (by kernel_rfl) (by kernel_rfl) rfl rfl (d05 k hk) rfl
def foE(fo:List (List (Nat×Nat))):List (List (List AV)):=fo.map (·.map a69)
theorem a4j(fo:List (List (Nat×Nat))):(foE fo).length=fo.length:=by unfold foE;simp
theorem a5j{fo:List (List (Nat×Nat))}{j:Nat}{L:List (Nat×Nat)}(h:fo[j]?=some L):(foE fo)[j]?=some (L.map a69):=by unfold foE;rw[List.getElem?_map,h];rfl
theorem c2v(fo:List (List (Nat×Nat)))(j:Nat)(L:List (Nat×Nat))(i k:Nat):(foE fo).set j (L.map a69++[a69 (i,k)])=foE (fo.set j (L++[(i,k)])):=by unfold foE;rw[List.map_set,List.map_append];rfl
def J0(c:Cir)(n:Nat)(F:Frm)(H:a03):Prop:=∃i b ids fo,n=c.nodes.length-i∧i≤c.nodes.length∧
 F=[(3,.slice b 0 c.nodes.length (some c.nodes.length)),(4,b9w c),(18,sl c.nc (c.nodes.map Nd.enc)),(19,.int .i64 c.nodes.length),(20,.int .i64 i)]∧Two H b 2 ids (λ_=>none) (foE fo)∧FoOk c.nodes i 0 fo
def J2(c:Cir)(i:Nat)(x:Nd)(n:Nat)(F:Frm)(H:a03):Prop:=∃k b ids fo,n=x.ins.length-k∧k≤x.ins.length∧
 F=[(3,.slice b 0 c.nodes.length (some c.nodes.length)),(4,b9w c),(5,.int .i64 i),(18,sl c.nc (c.nodes.map Nd.enc)),(19,.int .i64 c.nodes.length),(20,.int .i64 i),(26,sl x.c (x.ins.map a11)),(27,.int .i64 x.ins.length),(28,.int .i64 k)]∧Two H b 2 ids (λ_=>none) (foE fo)∧FoOk c.nodes i k fo
def cpT(fo:List (List (Nat×Nat)))(t:Nat):Nat→Option Nat:=λj=>if j<t then(fo[j]?).map List.length else none
def J4(c:Cir)(fo:List (List (Nat×Nat)))(n:Nat)(F:Frm)(H:a03):Prop:=∃t b ids,n=c.nodes.length-t∧t≤c.nodes.length∧
 F=[(3,.slice b 0 c.nodes.length (some c.nodes.length)),(51,.slice b 0 c.nodes.length (some c.nodes.length)),(52,.int .i64 c.nodes.length),(53,.int .i64 t)]∧Two H b 2 ids (cpT fo t) (foE fo)
theorem c4a(H:a03)(n:Nat)(b:Nat)(h:a01 H b=some (.row 1 (List.replicate n [.nilslice]))):Two H b 2 (λ_=>0) (λ_=>none) (foE (List.replicate n [])):=by
 have hfo:foE (List.replicate n [])=List.replicate n []:=by unfold foE;rw[List.map_replicate];rfl
 rw[hfo];have hno:∀(j:Nat) (f:List (List AV)),(List.replicate n ([]:List (List AV)))[j]?=some f→f=[]:=by
  intro j f hf;rw[List.getElem?_replicate]at hf;split at hf
  ·cases hf;rfl
  ·cases hf
 refine⟨?_,λj f hf hne=>absurd (hno j f hf) hne,λi j f g hf _ hne=>absurd (hno i f hf) hne,λf hf=>?_⟩
 ·rw[h]
  congr 2
  apply List.ext_getElem?;intro j;unfold a4f;rw[List.getElem?_mapIdx,List.getElem?_replicate,List.getElem?_replicate];split<;>rfl
 ·rw[(List.mem_replicate.1 hf).2];exact FlatR.nil
theorem c63(fo:List (List (Nat×Nat))):cpT fo 0=λ_=>none:=by funext j;simp[cpT]
theorem c64{fo:List (List (Nat×Nat))}{t:Nat}{L:List (Nat×Nat)}(h:fo[t]?=some L):(λi=>if i=t then some L.length else cpT fo t i)=cpT fo (t+1):=by
 funext j
 unfold cpT;by_cases h1:j=t
 ·subst h1;simp[h]
 ·by_cases h2:j<t
  ·simp[h1,h2,show j<t+1 by omega]
  ·simp[h1,h2,show ¬j<t+1 by omega]
theorem c3a:sem L.env Mf 176 [.nilslice] []=some (.nilslice,[]):=by
 (refine sv Tryz.f176 ?_;simp only[Tryz.f176,gS])
 (repeat first|simp only[ww]|(apply xa;simp+decide only[go_sem];rfl;kernel_rfl))
 (apply fqb;simp+decide only[go_sem]<;>rfl)
theorem c6c(n:Nat)(rows:List (List AV))(hf:FlatR rows):sem L.env Mf 176 [.slice 0 0 n none] [some (.row 2 rows)]=some (.slice 0 0 n (some n),[some (.row 2 rows)]):=by
 have h1:=λπ=>a08 π hf
 (refine sv Tryz.f176 ?_;simp only[Tryz.f176,gS])
 (repeat first|simp only[ww]|(apply xa;simp+decide only[go_sem];rfl;kernel_rfl))
 (apply fqb;simp+decide only[go_sem,h1]<;>rfl)
theorem b7q{d:Bool}(H:a03):a0m L.env d (sem L.env Mf) (.func (.func 176) [] []) [.nilslice] H=some (.nilslice,H,[]):=a06 (by kernel_rfl) (by kernel_rfl) rfl rfl c3a rfl
theorem c0m{d:Bool}{H:a03}{b n:Nat}{rows:List (List AV)}(hf:FlatR rows)(hb:a01 H b=some (.row 2 rows)):a0m L.env d (sem L.env Mf) (.func (.func 176) [] []) [.slice b 0 n none] H=some (.slice b 0 n (some n),H,[b]):=by have h:=a6v (E:=L.env) (draw:=d) (call:=sem L.env Mf) (g:=176) (fs:=[]) (cs:=[]) (ar:=[.slice b 0 n none]) (H:=H) (b:=b) (by kernel_rfl) (by kernel_rfl) rfl hb (a2d hf) (FlatO.row hf) rfl (args':=[AV.slice 0 0 n none]) (by simp only[List.nil_append,List.append_nil,List.map_cons,List.map_nil,a43]) (c6c n rows hf) (FlatO.row hf) (a5p b 0 _ n _);rw[a9l hb]at h;exact h
theorem c31(c:Cir)(h:c.wf):∃r:AV×a03,(∃fo,FoOk c.nodes c.nodes.length 0 fo∧r=(AV.islice ((foE fo).mapIdx λj f=>[slF (cpT fo c.nodes.length j) f]) (some c.nodes.length),[]))∧sem L.env Mf 135 [.agg c.enc] []=some r:=by
 have hn:=h.len;have hou:=λH=>a66 (d:=false) H c;have hrm:c.nodes.length≤1000000000:=by omega
 have hov:refs (b9w c)=[]:=rfl;have hor:∀π,ren π (b9w c)=b9w c:=λπ=>a3k π _ rfl;have ho1:=λH m hm=>b5e (d:=false) H c m hm;generalize hO:b9w c=O at hou hov hor ho1;simp only[Cir.enc]at hou⊢
 (refine svE Tryz.f135 ?_;simp only[Tryz.f135,gS])
 (repeat first|simp only[ww]|(apply xa;simp+decide only[go_sem,hou,hrm];rfl;kernel_rfl))
 refine a9b kp135_0 (J0 c) (c.nodes.length-0) ?_ ?_
 ·refine a4o (c4a _ c.nodes.length 1 rfl) ?_ (by rw[a4j];simp;omega) ?_
  ·exact .inl (by simp+decide only[go_sem,hov])
  ·intro π b' ids' H1 hb hT;refine⟨0,b',ids',_,rfl,Nat.zero_le _,?_,hT,FoOk.zero _⟩;simp+decide only[go_sem,hb,hor,hO]<;>rfl
 ·rintro n F H ⟨i,b,ids,fo,rfl,hi,rfl,hT,hF⟩
  by_cases hlt:i<c.nodes.length
  ·obtain⟨x,hx⟩:∃x,c.nodes[i]?=some x:=⟨_,z9e hlt⟩
   have c1:(i:Int)<c.nodes.length:=by omega
   have hw:=wI1 (n:=i) (by omega);have hbl:=a2h hT.top;have hxi:=a7m hx;rw[hO]
   (repeat first|simp only[ww]|(apply xa;simp+decide only[go_sem,c1,hlt,hx,hw,b0t,a7o,b6w,b88,b78];rfl;kernel_rfl))
   refine a9b kp135_2 (J2 c i x) (x.ins.length-0) ?_ ?_
   ·refine a4o (hT.more) ?_ (by rw[a4j,hF.len];omega) ?_
    ·exact .inl (by simp+decide only[go_sem,hov])
    ·intro π b' ids' H1 hb hT;refine⟨0,b',ids',_,rfl,Nat.zero_le _,?_,hT,hF⟩;simp+decide only[go_sem,hb,hor,hO]<;>rfl
   ·rintro n F H ⟨k,b,ids,fo,rfl,hk,rfl,hT,hF⟩
    rw[hO];by_cases hkl:k<x.ins.length
    ·obtain⟨m,hm⟩:∃m,x.ins[k]?=some m:=⟨_,z9e hkl⟩
     have hmn:=h.ins x (List.mem_of_getElem? hx) m (List.mem_of_getElem? hm);have hom:=λH=>ho1 H m hmn;have c2:(k:Int)<x.ins.length:=by omega
     have hil:=h.insl (List.mem_of_getElem? hx);have hw2:=wI1 (n:=k) (by omega);have hbl:=a2h hT.top;have htop:=hT.top;have hmf:m<fo.length:=by rw[hF.len];exact hmn
     obtain⟨L,hL⟩:∃L,fo[m]?=some L:=⟨_,z9e hmf⟩
     have hget:=b06 (ids:=ids) (cp:=λ_=>none) (a5j hL);have hstep:=hF.step (by rw[hxi];exact hm) hL;have hrl:(a4f ids (λ_=>none) (foE fo)).length=c.nodes.length:=by rw[a52,a4j,hF.len]
     cases L with
     |nil=>
      simp only[List.map_nil,slV]at hget
      (repeat first|simp only[ww]|(apply xa;simp+decide only[go_sem,c2,hkl,hm,hw2,hom,hbl,htop,hmn,hget,b0t,a7o,a9q,b6w,b88,c7g,b78,b8j,List.append_assoc,List.cons_append,List.nil_append,hrl];rfl;kernel_rfl))
      refine a40 (x.ins.length-(k+1)) (by omega) ?_;have hT2:=hT.app1 (o:=some (.row 2 [a69 (i,k)])) (x:=a69 (i,k)) (a5j hL) rfl rfl;have e2:(foE fo).set m [a69 (i,k)]=foE (fo.set m ([]++[(i,k)])):=c2v fo m [] i k;rw[e2]at hT2;refine a4o hT2 ?_ (by rw[a4j,List.length_set,hF.len];omega) ?_
      ·exact .inl (by simp+decide only[go_sem,hov])
      ·intro π b' ids' H1 hb hT;refine⟨k+1,b',ids',_,rfl,hkl,?_,hT,hstep⟩;simp+decide only[go_sem,hb,hor,hO]<;>rfl
     |cons a r=>
      simp only[List.map_cons,slV]at hget;have hsub:=hT.sub m _ (a5j hL) (by simp);obtain⟨s1,s2⟩:=hsub;have s3:=a2h s1;simp only[List.map_cons]at s1;have hLl:r.length+1+1≤1000000000:=by have:=hF.total hL (h.len) (λy hy=>h.insl hy);simp only[List.length_cons]at this;omega
      (repeat first|simp only[ww]|(apply xa;simp+decide only[go_sem,c2,hkl,hm,hw2,hom,hbl,htop,hmn,hget,b0t,a7o,a9q,c07,List.length_set,s1,s2,s3,hLl,b6w,b88,c7g,b78,b8j,List.append_assoc,List.cons_append,List.nil_append,hrl];rfl;kernel_rfl))
      refine a40 (x.ins.length-(k+1)) (by omega) ?_;have hT2:=hT.app2 (o:=some (.row 2 [a69 (i,k)])) (x:=a69 (i,k)) (a5j hL) rfl rfl;have e2:(foE fo).set m (a69 a::List.map a69 r++[a69 (i,k)])=foE (fo.set m (a::r++[(i,k)])):=c2v fo m (a::r) i k;rw[e2]at hT2;rw[List.length_map]at hT2;refine a4o hT2 ?_ (by rw[a4j,List.length_set,hF.len];omega) ?_
      ·exact .inl (by simp+decide only[go_sem,hov])
      ·intro π b' ids' H1 hb hT;refine⟨k+1,b',ids',_,rfl,hkl,?_,hT,hstep⟩;simp+decide only[go_sem,hb,hor,hO]<;>rfl
    ·obtain rfl:k=x.ins.length:=by omega
     have c2:¬(x.ins.length:Int)<x.ins.length:=by omega
     (repeat first|simp only[ww]|(apply xa;simp+decide only[go_sem,c2,hw];rfl;kernel_rfl))
     refine a40 (c.nodes.length-(i+1)) (by omega) ?_;refine a4o hT ?_ (by rw[a4j,hF.len];omega) ?_
     ·exact .inl (by simp+decide only[go_sem,hov])
     ·intro π b' ids' H1 hb hT;refine⟨i+1,b',ids',_,rfl,by omega,?_,hT,hF.next (by rw[hxi])⟩;simp+decide only[go_sem,hb,hor,hO]<;>rfl
  ·obtain rfl:i=c.nodes.length:=by omega
   have c1:¬(c.nodes.length:Int)<c.nodes.length:=by omega
   rw[hO]
   (repeat first|simp only[ww]|(apply xa;simp+decide only[go_sem,c1];rfl;kernel_rfl))
   refine a9b kp135_4 (J4 c fo) (c.nodes.length-0) ?_ ?_
   ·refine a4o hT ?_ (by rw[a4j,hF.len];omega) ?_
    ·exact .inr (by simp+decide only[go_sem,hov])
    ·intro π b' ids' H1 hb hT;refine⟨0,b',ids',rfl,Nat.zero_le _,?_,by rw[c63];exact hT⟩;simp+decide only[go_sem,hb,hor,hO]<;>rfl
   ·rintro n F H ⟨t,b,ids,rfl,ht,rfl,hT⟩
    by_cases htl:t<c.nodes.length
    ·have c2:(t:Int)<c.nodes.length:=by omega
     have hw2:=wI1 (n:=t) (by omega);have hbl:=a2h hT.top;have htop:=hT.top;obtain⟨L,hL⟩:∃L,fo[t]?=some L:=⟨_,z9e (by rw[hF.len];exact htl)⟩
     have hget:=b06 (ids:=ids) (cp:=cpT fo t) (a5j hL);have hct:cpT fo t t=none:=by simp[cpT]
     have hrl:(a4f ids (cpT fo t) (foE fo)).length=c.nodes.length:=by rw[a52,a4j,hF.len]
     rw[hct]at hget;have hfin:∀H1,H1=H.set b (some (.row 1 ((a4f ids (cpT fo t) (foE fo)).set t [slV (ids t) (some L.length) (L.map a69)])))→Two H1 b 2 ids (cpT fo (t+1)) (foE fo):=by
      intro H1 hH1;have:=hT.clip (H1:=H1) (a5j hL) (by rw[hH1,b5s hbl]) (λc hc=>by rw[hH1,a6c (Ne.symm hc)])
      rwa [c64 hL]at this
     cases L with
     |nil=>
      simp only[List.map_nil,slV]at hget;have hcl:=λH=>b7q (d:=false) H
      (repeat first|simp only[ww]|(apply xa;simp+decide only[go_sem,c2,htl,hw2,hbl,htop,hget,hcl,hrl,List.length_set];rfl;kernel_rfl))
      refine a40 (c.nodes.length-(t+1)) (by omega) ?_;refine a4o (hfin _ rfl) ?_ (by rw[a4j,hF.len];omega) ?_
      ·exact .inr (by simp+decide only[go_sem,hov])
      ·intro π b' ids' H1 hb hT;refine⟨t+1,b',ids',rfl,by omega,?_,hT⟩;simp+decide only[go_sem,hb,hor,hO]<;>rfl
     |cons a r=>
      simp only[List.map_cons,slV]at hget;obtain⟨s1,s2⟩:=hT.sub t _ (a5j hL) (by simp);have hcl:=c0m (d:=false) (H:=H) (b:=ids t) (n:=r.length+1) (hT.flat _ (List.mem_of_getElem? (a5j hL))) s1
      (repeat first|simp only[ww]|(apply xa;simp+decide only[go_sem,c2,htl,hw2,hbl,htop,hget,hcl,hrl,List.length_set];rfl;kernel_rfl))
      refine a40 (c.nodes.length-(t+1)) (by omega) ?_;refine a4o (hfin _ (by simp only[List.map_cons,slV,List.length_map,List.length_cons])) ?_ (by rw[a4j,hF.len];omega) ?_
      ·exact .inr (by simp+decide only[go_sem,hov])
      ·intro π b' ids' H1 hb hT;refine⟨t+1,b',ids',rfl,by omega,?_,hT⟩;simp+decide only[go_sem,hb,hor,hO]<;>rfl
    ·obtain rfl:t=c.nodes.length:=by omega
     have c2:¬(c.nodes.length:Int)<c.nodes.length:=by omega
     have hz:=hT.frz (some c.nodes.length);rw[a4j,hF.len]at hz
     (repeat first|simp only[ww]|(apply xa;simp+decide only[go_sem,c2];rfl;kernel_rfl))
     refine c9w (vs:=[.slice b 0 c.nodes.length (some c.nodes.length)]) (r:=(_,[])) (by simp+decide only[go_sem]) ?_ ⟨fo,hF,rfl⟩;show a1e false 0 (.slice b 0 c.nodes.length (some c.nodes.length)) H=_;rw[c2z,hz];rfl
def foR(c:Cir)(fo:List (List (Nat×Nat))):List (List AV):=(foE fo).mapIdx λj f=>[slF (cpT fo c.nodes.length j) f]
theorem c9x{c:Cir}{fo:List (List (Nat×Nat))}{j:Nat}{L:List (Nat×Nat)}(h:fo[j]?=some L)(hj:j<c.nodes.length):(foR c fo)[j]?=some [slF (some L.length) (L.map a69)]:=by unfold foR;rw[List.getElem?_mapIdx,a5j h];simp[cpT,hj,h]
theorem b7m(c:Cir)(h:c.wf):∃fo,FoOk c.nodes c.nodes.length 0 fo∧∀(d:Bool) (H:a03),a0m L.env d (sem L.env Mf) (.func (.func 135) [] []) [.agg c.enc] H=some (.islice (foR c fo) (some c.nodes.length),H,[]):=by obtain⟨r,⟨fo,h1,rfl⟩,h2⟩:=c31 c h;exact⟨fo,h1,λd H=>a06 (by kernel_rfl) (by kernel_rfl) rfl (a55 c) h2 rfl⟩
def kcb(c:Cir):Option AObj:=some (.row 4 [[sl c.nc (c.nodes.map Nd.enc),sl c.mc (c.names.map a39),.nilslice,sl c.oc (c.outs.map a11)]])
attribute [go_sem] kcb
def JL2(c:Cir)(fo:List (List (Nat×Nat)))(n:Nat)(F:Frm)(H:a03):Prop:=∃(out left ready:List Nat) (done:Nat),n=c.nodes.length-done∧
 F=[(1,.ptr 0 0 0),(5,.slice 1 0 c.nodes.length (some c.nodes.length)),(6,.slice 2 0 c.nodes.length (some c.nodes.length)),(7,grV 3 (ready.map a11)),(10,.islice (foR c fo) (some c.nodes.length)),(11,.int .i64 done)]∧
 H=[kcb c,some (.row 1 (out.map a11)),some (.row 1 (left.map a11))]++grH 1 (ready.map a11)∧Kahn c.nodes left ready done []∧out.length=c.nodes.length∧(∀v∈out,v≤300*done)∧Lev c.nodes out ready done []
def JL4(c:Cir)(fo:List (List (Nat×Nat)))(done x:Nat)(L:List (Nat×Nat))(n:Nat)(F:Frm)(H:a03):Prop:=∃(out left ready:List Nat) (q:Nat),n=L.length-q∧q≤L.length∧
 F=[(1,.ptr 0 0 0),(5,.slice 1 0 c.nodes.length (some c.nodes.length)),(6,.slice 2 0 c.nodes.length (some c.nodes.length)),(7,grV 3 (ready.map a11)),(10,.islice (foR c fo) (some c.nodes.length)),(11,.int .i64 (done+1:Nat)),(12,.int .i64 x),(76,.islice (L.map a69) (some L.length)),(77,.int .i64 L.length),(78,.int .i64 q)]∧
 H=[kcb c,some (.row 1 (out.map a11)),some (.row 1 (left.map a11))]++grH 1 (ready.map a11)∧Kahn c.nodes left ready done (L.take q)∧ready[done]?=some x∧out.length=c.nodes.length∧(∀v∈out,v≤300*done+q)∧Lev c.nodes out ready done (L.take q)
theorem e1a(n:Nat):List.replicate n [AV.int .i64 0]=(List.replicate n 0).map a11:=by rw[List.map_replicate];rfl
theorem c6t(a b:Nat):c6u (.int .i64 a) [.int .i64 (b:Int)]=some (.int .i64 ((max a b:Nat):Int)):=by
 simp only[c6u];by_cases h:(b:Int)>a
 ·rw[if_pos h];congr 2;omega
 ·rw[if_neg h];congr 2;omega
theorem c27(c:Cir)(h:c.wf):∃r:AV×a03,(∃lv:List Nat,lv.length=c.nodes.length∧(∀v∈lv,v≤100000)∧d0z c.nodes lv∧r=(.tuple [.islice (lv.map a11) (some c.nodes.length),.int .i64 0],[]))∧sem L.env Mf 84 [.agg c.enc] []=some r:=by
 have hn:=h.len;obtain⟨fo,hfo,hfc⟩:=b7m c h;have hfc:=hfc false;have hsh:=λH=>b9l (d:=false) H c h;have hrm:c.nodes.length≤1000000000:=by omega
 have hko:a15 (kcb c)=[]:=by simp only[go_sem]
 simp only[Cir.enc]at hfc hsh⊢
 (refine svE Tryz.f84 ?_;simp only[Tryz.f84,gS])
 (repeat first|simp only[ww]|(apply xa;simp+decide only[go_sem,hsh,hrm];rfl;kernel_rfl))
 refine a0n (σ:=Nat) kp84_0 (λi=>[(1,.ptr 0 0 0),(5,.slice 1 0 c.nodes.length (some c.nodes.length)),(6,.slice 2 0 c.nodes.length (some c.nodes.length)),(7,grV 3 ((a2s c.nodes i).map a11)),(29,sl c.nc (c.nodes.map Nd.enc)),(30,.int .i64 c.nodes.length),(31,.int .i64 i)])
  (λi=>[kcb c,some (.row 1 ((List.replicate c.nodes.length 0).map a11)),some (.row 1 ((a27 c.nodes i).map a11))]++grH 1 ((a2s c.nodes i).map a11)) (λi=>c.nodes.length-i) (λi=>i≤c.nodes.length) 0 ?_ (Nat.zero_le _) ?_
 ·rw[b7b,show a2s c.nodes 0=[]from rfl]
  (simp+decide only[go_sem,a02,a00,e1a,List.map_nil,a0x,a0y,a3t,a65]<;>rfl)
 ·intro i hi;by_cases hlt:i<c.nodes.length
  ·obtain⟨x,hx⟩:∃x,c.nodes[i]?=some x:=⟨_,z9e hlt⟩
   have c1:(i:Int)<c.nodes.length:=by omega
   have hw:=wI1 (n:=i) (by omega);have k14:=h.kind x (List.mem_of_getElem? hx);have hcb:=λH=>b63 (d:=false) H x.kind (by omega);have hll:(a27 c.nodes i).length=c.nodes.length:=by simp[a27]
   have hgl:(a27 c.nodes i)[i]?=some 0:=by rw[a44 hlt];simp
   have hrl:=b9r c.nodes i;have hrs:=b5a c.nodes i;have hset:=b0m hlt;have hgl2:(a27 c.nodes (i+1))[i]?=some (a7k c.nodes i):=by rw[a44 hlt];simp
   have hnd:a7k c.nodes i=if a1c x.kind=true then x.ins.length else 0:=by unfold a7k;rw[a2g hx,a7m hx]
   have hsetR:((a27 c.nodes i).map a11).set i [AV.int .i64 (a7k c.nodes i)]=(a27 c.nodes (i+1)).map a11:=by rw[←hset,List.map_set];rfl
   by_cases hcm:a1c x.kind=true
   ·rw[if_pos hcm]at hnd;rw[hnd]at hsetR hgl2 hrs;by_cases hz:x.ins.length=0
    ·rw[if_pos hz]at hrs;have hz':(x.ins.length:Int)=0:=by omega
     rw[hz]at hsetR hgl2;generalize a2s c.nodes i=l at hrl hrs;cases l with
     |nil=>
      (repeat first|simp only[ww]|(apply xa;simp+decide only[go_sem,c1,hlt,hx,hw,hcb,hcm,hll,hgl,hsetR,hgl2,hz,List.map_nil,a0x,a0y];rfl;kernel_rfl))
      refine a1p (i+1) ?_ (by omega) (by omega);rw[hrs]
      (simp+decide only[go_sem,a02,a00,List.map_nil,List.nil_append,List.map_cons,a0b,a0c,List.length_nil,a3t,a65]<;>rfl)
     |cons a r=>
      simp only[List.length_cons]at hrl;have hrm2:r.length+1+1≤1000000000:=by omega
      (repeat first|simp only[ww]|(apply xa;simp+decide only[go_sem,c1,hlt,hx,hw,hcb,hcm,hll,hgl,hsetR,hgl2,hz,List.map_cons,a0b,a0c,hrm2,List.length_cons];rfl;kernel_rfl))
      refine a1p (i+1) ?_ (by omega) (by omega);rw[hrs]
      (simp+decide only[go_sem,a02,a00,List.cons_append,List.map_cons,a0b,a0c,a3t,a65,List.length_cons]<;>rfl)
    ·rw[if_neg hz]at hrs;have hz':¬(x.ins.length:Int)=0:=by omega
     generalize a2s c.nodes i=l at hrl hrs;cases l with
     |nil=>
      (repeat first|simp only[ww]|(apply xa;simp+decide only[go_sem,c1,hlt,hx,hw,hcb,hcm,hll,hgl,hsetR,hgl2,hz',List.map_nil,a0x,a0y];rfl;kernel_rfl))
      refine a1p (i+1) ?_ (by omega) (by omega);rw[hrs]
      (simp+decide only[go_sem,a02,a00,List.map_nil,a0x,a0y,a3t,a65]<;>rfl)
     |cons a r=>
      (repeat first|simp only[ww]|(apply xa;simp+decide only[go_sem,c1,hlt,hx,hw,hcb,hcm,hll,hgl,hsetR,hgl2,hz',List.map_cons,a0b,a0c];rfl;kernel_rfl))
      refine a1p (i+1) ?_ (by omega) (by omega);rw[hrs]
      (simp+decide only[go_sem,a02,a00,List.map_cons,a0b,a0c,a3t,a65]<;>rfl)
   ·have hcm:a1c x.kind=false:=by simpa using hcm
    rw[hcm]at hnd;have hnd:a7k c.nodes i=0:=hnd;rw[hnd,if_pos rfl]at hrs;have hsame:=b7c hlt hnd
    ·
     generalize a2s c.nodes i=l at hrl hrs;cases l with
     |nil=>
      (repeat first|simp only[ww]|(apply xa;simp+decide only[go_sem,c1,hlt,hx,hw,hcb,hcm,hll,hgl,List.map_nil,a0x,a0y];rfl;kernel_rfl))
      refine a1p (i+1) ?_ (by omega) (by omega);rw[hrs,←hsame]
      (simp+decide only[go_sem,a02,a00,List.map_nil,List.nil_append,List.map_cons,a0b,a0c,List.length_nil,a3t,a65]<;>rfl)
     |cons a r=>
      simp only[List.length_cons]at hrl;have hrm2:r.length+1+1≤1000000000:=by omega
      (repeat first|simp only[ww]|(apply xa;simp+decide only[go_sem,c1,hlt,hx,hw,hcb,hcm,hll,hgl,List.map_cons,a0b,a0c,hrm2,List.length_cons];rfl;kernel_rfl))
      refine a1p (i+1) ?_ (by omega) (by omega);rw[hrs,←hsame]
      (simp+decide only[go_sem,a02,a00,List.cons_append,List.map_cons,a0b,a0c,a3t,a65,List.length_cons]<;>rfl)
  ·obtain rfl:i=c.nodes.length:=by omega
   have c1:¬(c.nodes.length:Int)<c.nodes.length:=by omega
   have hK:=Kahn.start c.nodes;generalize a2s c.nodes c.nodes.length=ready at hK;generalize a27 c.nodes c.nodes.length=left at hK
   (repeat first|simp only[ww]|(apply xa;simp+decide only[go_sem,c1,hfc];rfl;kernel_rfl))
   refine a9b kp84_2 (JL2 c fo) (c.nodes.length-0) ?_ ?_
   ·refine⟨_,_,?_,List.replicate c.nodes.length 0,left,ready,0,rfl,rfl,rfl,hK,by simp,by simp,Lev.start _ _ _⟩;cases ready with
    |nil=>(simp+decide only[go_sem,a02,a00,List.map_nil,a0x,a0y,a3t,a65]<;>rfl)
    |cons a r=>(simp+decide only[go_sem,a02,a00,List.map_cons,a0b,a0c,a3t,a65]<;>rfl)
   ·rintro n F H ⟨out,left,ready,done,rfl,rfl,rfl,hK,hol,hob,hV⟩
    have hne:ready≠[]:=by
     rintro rfl
     have hd0:done=0:=by have:=hK.dle;simpa using this
     subst hd0;have h1:c.nodes.length≤0:=hK.all h.acyc;have h2:=h.pos;omega
    have hbd:=hK.bound;have hdl:=hK.dle;have hneE:ready.map a11≠[]:=by simpa using hne
    rw[a4s 3 hneE,a4t 1 hneE,List.length_map];have hwd:=wI1 (n:=done) (by omega);have hll:=hK.ll;by_cases hlt:done<ready.length
    ·obtain⟨x,hx⟩:∃x,ready[done]?=some x:=⟨_,z9e hlt⟩
     have hxn:=hK.rn x (List.mem_of_getElem? hx);have c1:(done:Int)<ready.length:=by omega
     obtain⟨L,hL⟩:∃L,fo[x]?=some L:=⟨_,z9e (by rw[hfo.len];exact hxn)⟩
     have hLn:=hfo.node hL (Nat.le_refl _);have hLt:=hfo.total hL hn (λy hy=>h.insl hy);have hLc:∀a,a<c.nodes.length→cnt L a=(a3p c.nodes a).count x:=λa ha=>by rw[hfo.num x L hL a,if_pos ha]
     have hg:=c9x hL hxn;cases hLL:L with
     |nil=>
      subst hLL;simp only[List.map_nil,slF]at hg
      (repeat first|simp only[ww]|(apply xa;simp+decide only[go_sem,c1,hlt,hx,hwd,hg];rfl;kernel_rfl))
      refine a40 (c.nodes.length-(done+1)) (by omega) ⟨_,_,?_,out,left,ready,done+1,rfl,rfl,rfl,hK.next hx hLc,hol,λv hv=>by have:=hob v hv;omega,hV.next hx hLc⟩;rw[a4s 3 hneE,a4t 1 hneE]
      (simp+decide only[go_sem,a02,a00,a3t,a65]<;>rfl)
     |cons l0 lr=>
      rw[hLL]at hg;simp only[List.map_cons,slF]at hg;rw[←List.map_cons,←hLL]at hg;have hLp:L.length≠0:=by rw[hLL];simp
      have hLi:¬(L.length:Int)=0:=by omega
      have hLl:(L.map a69).length=L.length:=List.length_map ..
      (repeat first|simp only[ww]|(apply xa;simp+decide only[go_sem,c1,hlt,hx,hwd,hg,hLi,hLl];rfl;kernel_rfl))
      refine a9b kp84_4 (JL4 c fo done x L) (L.length-0) ?_ ?_
      ·refine⟨_,_,?_,out,left,ready,0,rfl,Nat.zero_le _,rfl,rfl,by rw[List.take_zero];exact hK,hx,hol,λv hv=>by have:=hob v hv;omega,by rw[List.take_zero];exact hV⟩;rw[a4s 3 hneE,a4t 1 hneE]
       (simp+decide only[go_sem,a02,a00,a3t,a65]<;>rfl)<;>rfl
      ·clear hK hbd hdl hneE hll hob hol hx hlt c1 hne hV
       rintro n F H ⟨out,left,ready,q,rfl,hq,rfl,rfl,hK,hx,hol,hob,hV⟩
       have hbd:=hK.bound;have hdlt:=(List.getElem?_eq_some_iff.1 hx).1;have hne:ready≠[]:=by rintro rfl;simp at hdlt
       have hneE:ready.map a11≠[]:=by simpa using hne
       rw[a4s 3 hneE,a4t 1 hneE,List.length_map];have hll:=hK.ll;have hwq:=wI1 (n:=q) (by omega);by_cases hql:q<L.length
       ·obtain⟨l,hl⟩:∃l,L[q]?=some l:=⟨_,z9e hql⟩
        obtain⟨a,p⟩:=l;have han:a<c.nodes.length:=hLn (a,p) (List.mem_of_getElem? hl);obtain⟨y,hy⟩:∃y,c.nodes[a]?=some y:=⟨_,z9e han⟩
        have c2:(q:Int)<L.length:=by omega
        have k14:=h.kind y (List.mem_of_getElem? hy);have hcb:=λH=>b63 (d:=false) H y.kind (by omega);have ht:=a1x hl;have hlR:(L.map a69)[q]?=some [.int .i64 a,.int .i64 p]:=by rw[List.getElem?_map,hl];rfl
        by_cases hcm:a1c y.kind=true
        ·have hkc:a1c (a0v c.nodes a)=true:=by rw[a2g hy];exact hcm
         have hcn:Pc.cnt (L.take q++[(a,p)]) a≤b4s c.nodes ready done a:=by refine Nat.le_trans ?_ (c97 hK.nd hx);rw[←hLc a han,←ht];unfold Pc.cnt;exact List.Sublist.count_le _ ((List.take_sublist _ _).map _)
         have hps:=hK.pos han hkc hcn;have hna:a∉ready:=λhm=>by have:=(hK.zero a han).1 hm;omega
         have hdc:=hK.dec han hkc hcn;rw[←ht]at hdc;obtain⟨va,hva⟩:∃v,out[a]?=some v:=⟨_,z9e (by omega)⟩
         obtain⟨vx,hvx⟩:∃v,out[x]?=some v:=⟨_,z9e (by omega)⟩
         obtain⟨w,hw⟩:∃v,left[a]?=some v:=⟨_,z9e (by omega)⟩
         have hwD:left.getD a 0=w:=by rw[List.getD,hw];rfl
         rw[hwD]at hps hdc;have bx:=hob vx (List.mem_of_getElem? hvx);have ba:=hob va (List.mem_of_getElem? hva);have hw1:=wI1 (n:=vx) (by omega);have hw2:IntKind.i64.wrap ((w:Int)-1)=((w-1:Nat):Int):=by
          have hwl:w≤100000:=by have h1:=hK.eq a han hkc;rw[hwD]at h1;have h2:b4s c.nodes ready done a≤(a3p c.nodes a).length:=List.length_filter_le _ _;rw[a7m hy]at h2;have h3:=h.insl (List.mem_of_getElem? hy);omega
          rw[w64 (by omega) (by omega)];omega
         have hmx:c6u (.int .i64 va) [.int .i64 ((vx+1:Nat):Int)]=some (.int .i64 ((max va (vx+1):Nat):Int)):=c6t _ _;have hsO:(out.map a11).set a [AV.int .i64 ((max va (vx+1):Nat):Int)]=(out.set a (max va (vx+1))).map a11:=by rw[List.map_set];rfl
         have hsL:(left.map a11).set a [AV.int .i64 ((w-1:Nat):Int)]=(left.set a (w-1)).map a11:=by rw[List.map_set];rfl
         have hgw:(left.set a (w-1))[a]?=some (w-1):=by rw[List.getElem?_set];simp;omega
         have hlo:(left.set a (w-1)).length=c.nodes.length:=by rw[List.length_set];exact hll
         have hoO:(out.set a (max va (vx+1))).length=c.nodes.length:=by rw[List.length_set];exact hol
         have hob2:∀v∈out.set a (max va (vx+1)),v≤300*done+(q+1):=by
          intro v hv;rcases List.mem_or_eq_of_mem_set hv with hv|rfl
          ·have:=hob v hv;omega
          ·omega
         have hdn:done<c.nodes.length:=by omega
         have han':a<left.length:=by omega
         have hxl:x<out.length:=by omega
         by_cases hz:w-1=0
         ·rw[if_pos hz]at hdc;have hz':decide (((w-1:Nat):Int)=0)=true:=decide_eq_true (by omega);have hrm2:ready.length+1≤1000000000:=by omega
          have hx':(ready++[a])[done]?=some x:=by rw[List.getElem?_append_left hdlt];exact hx
          (repeat first|simp only[ww]|(apply xa;simp+decide only[go_sem,c2,hql,hlR,hy,hcb,hcm,hwq,han,hva,hvx,hw,hol,hll,hxn,hw1,hw2,hmx,hsO,hsL,hgw,hlo,hoO,hz',hrm2];rfl;kernel_rfl))
          refine a40 (L.length-(q+1)) (by omega) ⟨_,_,?_,out.set a (max va (vx+1)),left.set a (w-1),ready++[a],q+1,rfl,hql,rfl,rfl,hdc,hx',hoO,hob2,by rw[ht];exact hV.dec hx hna hva hvx (.inr rfl)⟩
          (simp+decide only[go_sem,a02,a00,b8p,c5p,a3t,a65]<;>rfl)<;>rfl
         ·rw[if_neg hz]at hdc;have hz':¬((w-1:Nat):Int)=0:=by omega
          (repeat first|simp only[ww]|(apply xa;simp+decide only[go_sem,c2,hql,hlR,hy,hcb,hcm,hwq,han,hva,hvx,hw,hol,hll,hxn,hw1,hw2,hmx,hsO,hsL,hgw,hlo,hoO,hz'];rfl;kernel_rfl))
          refine a40 (L.length-(q+1)) (by omega) ⟨_,_,?_,out.set a (max va (vx+1)),left.set a (w-1),ready,q+1,rfl,hql,rfl,rfl,hdc,hx,hoO,hob2,by rw[ht];exact hV.dec hx hna hva hvx (.inl rfl)⟩;rw[a4s 3 hneE,a4t 1 hneE]
          (simp+decide only[go_sem,a02,a00,a3t,a65]<;>rfl)<;>rfl
        ·have hcm:a1c y.kind=false:=by simpa using hcm
         (repeat first|simp only[ww]|(apply xa;simp+decide only[go_sem,c2,hql,hlR,hy,hcb,hcm,hwq,han];rfl;kernel_rfl))
         refine a40 (L.length-(q+1)) (by omega) ⟨_,_,?_,out,left,ready,q+1,rfl,hql,rfl,rfl,by rw[ht];exact hK.skip (by rw[a2g hy];exact hcm),hx,hol,λv hv=>by have:=hob v hv;omega,by rw[ht];exact hV.skip (by rw[a2g hy];exact hcm)⟩;rw[a4s 3 hneE,a4t 1 hneE]
         (simp+decide only[go_sem,a02,a00,a3t,a65]<;>rfl)<;>rfl
       ·obtain rfl:q=L.length:=by omega
        have c2:¬(L.length:Int)<L.length:=by omega
        rw[List.take_length]at hK hV
        (repeat first|simp only[ww]|(apply xa;simp+decide only[go_sem,c2];rfl;kernel_rfl))
        refine a40 (c.nodes.length-(done+1)) (by omega) ⟨_,_,?_,out,left,ready,done+1,rfl,rfl,rfl,hK.next hx hLc,hol,λv hv=>by have:=hob v hv;omega,hV.next hx hLc⟩;rw[a4s 3 hneE,a4t 1 hneE]
        (simp+decide only[go_sem,a02,a00,a3t,a65]<;>rfl)<;>rfl
    ·obtain rfl:done=ready.length:=by omega
     have c1:¬(ready.length:Int)<ready.length:=by omega
     have hall:=hK.all h.acyc;have c2:¬(ready.length:Int)<c.nodes.length:=by omega
     (repeat first|simp only[ww]|(apply xa;simp+decide only[go_sem,c1,c2];rfl;kernel_rfl))
     refine a4w (vs:=[.slice 1 0 c.nodes.length (some c.nodes.length),.int .i64 0]) (r:=(_,[])) (by simp+decide only[go_sem]) ?_ ⟨out,hol,λv hv=>by have:=hob v hv;omega,hV.all hK hall,rfl⟩;show a1e false 0 (.tuple [.slice 1 0 c.nodes.length (some c.nodes.length),.int .i64 0]) _=_;rw[←hol];simp+decide only[go_sem,d3y]
theorem b7a(c:Cir)(h:c.wf):∃lv:List Nat,lv.length=c.nodes.length∧(∀v∈lv,v≤100000)∧d0z c.nodes lv∧∀(d:Bool) (H:a03),a0m L.env d (sem L.env Mf) (.func (.func 84) [] []) [.agg c.enc] H=some (.tuple [.islice (lv.map a11) (some c.nodes.length),.int .i64 0],H,[]):=by obtain⟨r,⟨lv,h1,h2,hR,rfl⟩,h3⟩:=c27 c h;exact⟨lv,h1,h2,hR,λd H=>a06 (by kernel_rfl) (by kernel_rfl) rfl (a55 c) h3 rfl⟩
theorem c21(c:Cir)(h:c.wf):sem L.env Mf 34 [.agg c.enc] []=some (.int .i64 0,[]):=by
 obtain⟨lv,_,_,_,hc⟩:=b7a c h;have hc:=hc false;simp only[Cir.enc]at hc⊢
 (refine sv Tryz.f34 ?_;simp only[Tryz.f34,gS])
 (repeat first|simp only[ww]|(apply xa;simp+decide only[go_sem,hc];rfl;kernel_rfl))
 (apply fqb;simp+decide only[go_sem]<;>rfl)
theorem b76{d:Bool}(H:a03)(c:Cir)(h:c.wf):a0m L.env d (sem L.env Mf) (.func (.func 34) [] []) [.agg c.enc] H=some (.int .i64 0,H,[]):=a06 (by kernel_rfl) (by kernel_rfl) rfl (a55 c) (c21 c h) rfl
/- dependence, by the statements -/
/- the statements' own check of a bridge -/
attribute [go_sem] Pat.enc
structure PatOk(nodes:List Nd)(p:Pat):Prop where
 ins:p.ins.length=(kinds nodes 0).length
 sts:p.sts.length=(kinds nodes 14).length
 inv:∀v∈p.ins,v≤3
 stv:∀v∈p.sts,v≤3
theorem b3w(nodes:List Nd)(k:Nat):(kinds nodes k).length≤nodes.length:=b0p _ _ _
theorem c65(c:Cir)(h:c.wf)(k:Nat):sem L.env Mf 91 [.agg c.enc,.int .u8 k] []=some (.int .i64 (kinds c.nodes k).length,[]):=by
 have hn:=h.len;simp only[Cir.enc]
 (refine sv Tryz.f91 ?_;simp only[Tryz.f91,gS])
 (repeat first|simp only[ww]|(apply xa;simp+decide only[go_sem];rfl;kernel_rfl))
 refine a0n (σ:=Nat) kp91_0 (λi=>[(1,.int .u8 k),(2,.ptr 0 0 0),(5,.int .i64 (a2v c.nodes k i).length),(6,.int .i64 i)])
  (λi=>[some (.row 4 [[sl c.nc (c.nodes.map Nd.enc),sl c.mc (c.names.map a39),.nilslice,sl c.oc (c.outs.map a11)]])]) (λi=>c.nodes.length-i) (λi=>i≤c.nodes.length) 0 ?_ (Nat.zero_le _) ?_
 ·have e:a2v c.nodes k 0=[]:=rfl
  (simp+decide only[go_sem,a02,a00,e,List.length_nil]<;>rfl)
 ·intro i hi;by_cases hlt:i<c.nodes.length
  ·obtain⟨x,hx⟩:∃x,c.nodes[i]?=some x:=⟨_,z9e hlt⟩
   have c1:(i:Int)<c.nodes.length:=by omega
   have hw:=wI1 (n:=i) (by omega);have hle:=b0p c.nodes k i;have hw2:=wI1 (n:=(a2v c.nodes k i).length) (by omega);have hs:=b0o c.nodes k i;rw[a2g hx]at hs;by_cases hk:x.kind=k
   ·have ck:decide ((x.kind:Int)=k)=true:=decide_eq_true (by omega);rw[if_pos hk]at hs;have hl:(a2v c.nodes k (i+1)).length=(a2v c.nodes k i).length+1:=by rw[hs];simp
    (repeat first|simp only[ww]|(apply xa;simp+decide only[go_sem,c1,hlt,hx,hw,hw2,ck];rfl;kernel_rfl))
    refine a1p (i+1) ?_ (by omega) (by omega)
    (simp+decide only[go_sem,a02,a00,hl]<;>rfl)
   ·have ck:¬(x.kind:Int)=k:=by omega
    rw[if_neg hk]at hs
    (repeat first|simp only[ww]|(apply xa;simp+decide only[go_sem,c1,hlt,hx,hw,hw2,ck];rfl;kernel_rfl))
    refine a1p (i+1) ?_ (by omega) (by omega)
    (simp+decide only[go_sem,a02,a00,hs]<;>rfl)
  ·obtain rfl:i=c.nodes.length:=by omega
   have c1:¬(c.nodes.length:Int)<c.nodes.length:=by omega
   (repeat first|simp only[ww]|(apply xa;simp+decide only[go_sem,c1];rfl;kernel_rfl))
   (apply fqb;simp+decide only[go_sem,kinds]<;>rfl)
theorem b30{d:Bool}(H:a03)(c:Cir)(h:c.wf){n:Int}(k:Nat)(hk:n=k):a0m L.env d (sem L.env Mf) (.func (.func 91) [] []) [.agg c.enc,.int .u8 n] H=some (.int .i64 (kinds c.nodes k).length,H,[]):=by subst hk;exact a06 (by kernel_rfl) (by kernel_rfl) rfl (by simp only[a0h,a1o,Cir.enc,go_sem]) (c65 c h k) rfl
theorem a95(l:List Nat):(l.map u8R).flatMap a0i=[]:=a0d (FlatR.map λ_=>rfl)
theorem b58(π:Nat→Option Nat)(l:List Nat):(l.map u8R).map (λr=>r.map (ren π))=l.map u8R:=a08 π (FlatR.map λ_=>rfl)
theorem d84{m:Nat}{d:AV→Option AV}(l:List Nat):a6u m d (l.map u8R)=some (l.map u8R):=a0s m d (FlatR.map λ_=>rfl)
theorem c4h(r:Rep)(l:List Nat)(hv:∀v∈l,v<256)(hl:l.length<9223372036854775808)(n most:Nat)(hn:n≤100000)(hm:0<most)(hm4:most≤4)(hm3:3≤most):∃r':AV×a03,(∃out:List Nat,out.length=n∧(∀v∈out,v≤3)∧r'=(sl none (out.map u8R),[]))∧sem L.env Mf 90 [sl r (l.map u8R),.int .i64 n,.int .u8 most] []=some r':=by
 (refine svE Tryz.f90 ?_;simp only[Tryz.f90,gS])
 (repeat first|simp only[ww]|(apply xa;simp+decide only[go_sem];rfl;kernel_rfl))
 refine a9b kp90_0 (λq F H=>∃out:List Nat,q=n-out.length∧out.length≤n∧(∀v∈out,v≤3)∧F=[(0,sl r (l.map u8R)),(1,.int .i64 n),(2,.int .u8 most),(7,grV 0 (out.map u8R)),(8,.int .i64 out.length)]∧H=grH 1 (out.map u8R)) (n-0) ?_ ?_
 ·refine⟨_,_,?_,[],rfl,Nat.zero_le _,by simp,rfl,rfl⟩
  (simp+decide only[go_sem,a02,a00,List.map_nil,a0x,a0y]<;>rfl)<;>rfl
 ·rintro q F H ⟨out,rfl,ho,hov,rfl,rfl⟩
  by_cases hlt:out.length<n
  ·have c1:(out.length:Int)<n:=by omega
   have hw:=wI1 (n:=out.length) (by omega);have hrm:out.length+1≤1000000000:=by omega
   by_cases hle:l=[]
   ·subst hle;cases out with
    |nil=>
     simp only[List.length_nil]at hw c1
     (repeat first|simp only[ww]|(apply xa;simp+decide only[go_sem,c1,hw,List.map_nil,List.length_nil,List.map_nil,a0x,a0y,List.length_nil];rfl;kernel_rfl))
     refine a40 (n-1) (by simp at hlt⊢;omega) ⟨_,_,?_,[2],rfl,by simp at hlt⊢;omega,by intro u hu;simp only[List.mem_singleton]at hu;subst hu;omega,rfl,rfl⟩
     (simp+decide only[go_sem,a02,a00,List.map_cons,List.map_nil,a0b,a0c,List.length_nil,List.length_cons,a95,b58]<;>rfl)<;>rfl
    |cons a r2=>
     simp only[List.length_cons]at hrm hw c1 hlt
     (repeat first|simp only[ww]|(apply xa;simp+decide only[go_sem,c1,hw,List.map_nil,List.length_nil,List.map_cons,a0b,a0c,hrm,List.length_cons];rfl;kernel_rfl))
     refine a40 (n-(r2.length+1+1)) (by simp;omega) ⟨_,_,?_,(a::r2)++[2],by simp,by simp;omega,by intro u hu;rw[List.mem_append]at hu;rcases hu with hu|hu;exact hov u hu;simp only[List.mem_singleton]at hu;subst hu;omega,rfl,rfl⟩
     (simp+decide only[go_sem,a02,a00,List.cons_append,List.map_cons,List.map_nil,a0b,a0c,List.length_cons,a95,b58]<;>rfl)<;>rfl
   ·have hl0:0<l.length:=List.length_pos_iff.2 hle;have cl:¬(l.length:Int)=0:=by omega
    have hml:=Nat.mod_lt out.length hl0;obtain⟨u,hu⟩:∃u,l[out.length%l.length]?=some u:=⟨_,z9e hml⟩
    have hub:=hv u (List.mem_of_getElem? hu);have hmm:=Nat.mod_lt u hm;have cm:¬(most:Int)=0:=by omega
    have w1:=wI (n:=out.length%l.length) (by omega);have w2:=wB (n:=u%most) (by omega);cases out with
    |nil=>
     simp only[List.length_nil]at hml hu w1 hw c1
     (repeat first|simp only[ww]|(apply xa;simp+decide only[go_sem,c1,hw,cl,hml,hu,cm,w1,w2,List.map_nil,a0x,a0y,List.length_nil];rfl;kernel_rfl))
     refine a40 (n-1) (by simp at hlt⊢;omega) ⟨_,_,?_,[u%most],rfl,by simp at hlt⊢;omega,by intro u hu;simp only[List.mem_singleton]at hu;subst hu;omega,rfl,rfl⟩
     (simp+decide only[go_sem,a02,a00,List.map_cons,List.map_nil,a0b,a0c,List.length_nil,List.length_cons,a95,b58]<;>rfl)<;>rfl
    |cons a r2=>
     simp only[List.length_cons]at hrm hw c1 hlt hml hu w1
     (repeat first|simp only[ww]|(apply xa;simp+decide only[go_sem,c1,hw,cl,hml,hu,cm,w1,w2,List.map_cons,a0b,a0c,hrm,List.length_cons];rfl;kernel_rfl))
     refine a40 (n-(r2.length+1+1)) (by simp;omega) ⟨_,_,?_,(a::r2)++[u%most],by simp,by simp;omega,by intro u hu;rw[List.mem_append]at hu;rcases hu with hu|hu;exact hov u hu;simp only[List.mem_singleton]at hu;subst hu;omega,rfl,rfl⟩
     (simp+decide only[go_sem,a02,a00,List.cons_append,List.map_cons,List.map_nil,a0b,a0c,List.length_cons,a95,b58]<;>rfl)<;>rfl
  ·obtain rfl:n=out.length:=by omega
   have c1:¬(out.length:Int)<out.length:=by omega
   cases out with
   |nil=>
    (repeat first|simp only[ww]|(apply xa;simp+decide only[go_sem,c1,List.map_nil,a0x,a0y];rfl;kernel_rfl))
    refine a4w (vs:=[.nilslice]) (r:=(.nilslice,[])) (by simp+decide only[go_sem]) ?_ ⟨[],rfl,by simp,rfl⟩;simp+decide only[go_sem]
   |cons a r2=>
    simp only[List.length_cons]at c1
    (repeat first|simp only[ww]|(apply xa;simp+decide only[go_sem,c1,List.map_cons,a0b,a0c,List.length_cons];rfl;kernel_rfl))
    refine a4w (vs:=[.slice 0 0 (r2.length+1) none]) (r:=(sl none ((a::r2).map u8R),[])) (by simp+decide only[go_sem]) ?_ ⟨a::r2,rfl,hov,rfl⟩;show a1e false 0 (.slice 0 0 (r2.length+1) none) _=_;simp+decide only[go_sem,d84,List.map_cons,b55]
theorem b22(r:Rep)(l:List Nat)(hv:∀v∈l,v<256)(hl:l.length<9223372036854775808)(n most:Nat)(hn:n≤100000)(hm:0<most)(hm4:most≤4)(hm3:3≤most):∃out:List Nat,out.length=n∧(∀v∈out,v≤3)∧∀(d:Bool) (H:a03) (k:Int),k=most→a0m L.env d (sem L.env Mf) (.func (.func 90) [] []) [sl r (l.map u8R),.int .i64 n,.int .u8 k] H=some (sl none (out.map u8R),H,[]):=by obtain⟨r',⟨out,h1,h2,rfl⟩,h3⟩:=c4h r l hv hl n most hn hm hm4 hm3;refine⟨out,h1,h2,λd H k hk=>?_⟩;subst hk;exact a06 (by kernel_rfl) (by kernel_rfl) rfl (by simp only[List.nil_append,List.append_nil,a0h,go_sem]) h3 (a1b _ _)
structure PxOk(p:Pat):Prop where
 inv:∀v∈p.ins,v<256
 stv:∀v∈p.sts,v<256
 inl:p.ins.length<9223372036854775808
 stl:p.sts.length<9223372036854775808
theorem d35(c:Cir)(h:c.wf)(p:Pat)(hp:PxOk p):∃r:AV×a03,(∃q,PatOk c.nodes q∧r=(.agg q.enc,[]))∧sem L.env Mf 43 [.agg p.enc,.agg c.enc] []=some r:=by
 have hn:=h.len;have hk0:=b3w c.nodes 0;have hk14:=b3w c.nodes 14;have hc0:=λH=>b30 (d:=true) H c h (n:=0) 0 rfl;have hc14:=λH=>b30 (d:=true) H c h (n:=14) 14 rfl;obtain⟨a,a1,a2,ha⟩:=b22 p.ic p.ins hp.inv hp.inl (kinds c.nodes 0).length 4 (by omega) (by omega) (by omega) (by omega);obtain⟨b,b1,b2,hb⟩:=b22 p.sc p.sts hp.stv hp.stl (kinds c.nodes 14).length 3 (by omega) (by omega) (by omega) (by omega);have ha:=λH=>ha true H 4 rfl;have hb:=λH=>hb true H 3 rfl;simp only[Cir.enc]at hc0 hc14;simp only[Cir.enc,Pat.enc]
 (refine svE Tryz.f43 ?_;simp only[Tryz.f43,gS])
 (repeat first|simp only[ww]|(apply xa;simp+decide only[go_sem,hc0,hc14,ha,hb];rfl;kernel_rfl))
 refine a4w (vs:=[.agg (Pat.enc ⟨none,a,none,b⟩)]) (r:=(.agg (Pat.enc ⟨none,a,none,b⟩),[])) (by simp+decide only[go_sem]<;>rfl) ?_ ⟨_,⟨a1,b1,a2,b2⟩,rfl⟩;simp+decide only[go_sem]
theorem c4v(c:Cir)(h:c.wf)(p:Pat)(hp:PxOk p):∃q,PatOk c.nodes q∧∀(d:Bool) (H:a03),a0m L.env d (sem L.env Mf) (.func (.func 43) [] []) [.agg p.enc,.agg c.enc] H=some (.agg q.enc,H,[]):=by obtain⟨r,⟨q,h1,rfl⟩,h2⟩:=d35 c h p hp;exact⟨q,h1,λd H=>a06 (by kernel_rfl) (by kernel_rfl) rfl (by simp only[a0h,a1o,Cir.enc,Pat.enc,go_sem]) h2 (by simp only[a1o,Pat.enc,go_sem])⟩
/- patterns that fit -/
end Go.UInst
