/- Part of a proof. No condition. -/
import Derived.Test.YtmiegcjnimlbmaaGreatDoorUGa
import Derived.Test.YtmiegcjnimlbmaaGreatDoorPcB
import Derived.Test.YtmiegcjnimlbmaaGreatDoorAxD
set_option linter.unusedSectionVars false
set_option linter.unusedSimpArgs false
set_option linter.unusedVariables false
namespace Go.UInst
open Go.Proofs Go.Ax Go.Pc
variable [ZC]
set_option maxRecDepth 100000
theorem d7j(k:Nat)(hk:k<16):sM 106 [.int .u8 k] []=some (.tuple [.int .i64 (a27 k:Nat),.int .i64 (a23 k:Nat)],[]):=by
 have w:=wI (n:=k) (by omega);have c:¬(16:Int)<=k:=by omega
 have h:k=0∨k=1∨k=2∨k=3∨k=4∨k=5∨k=6∨k=7∨k=8∨k=9∨k=10∨k=11∨k=12∨k=13∨k=14∨k=15:=by omega
 rcases h with rfl|rfl|rfl|rfl|rfl|rfl|rfl|rfl|rfl|rfl|rfl|rfl|rfl|rfl|rfl|rfl
 all_goals
  (refine sv Tryz.f106 ?_;simp only[Tryz.f106,gS])
  (repeat first|simp only[ww]|apply xa;simp+decide only[go_sem,w,c];rfl;kernel_rfl)
  (apply fqb;simp+decide only[go_sem]<;>rfl)
theorem b22{d:Bool}(H:a03)(k:Nat)(hk:k<16):cl d 106 [.int .u8 k] H=some (.tuple [.int .i64 (a27 k:Nat),.int .i64 (a23 k:Nat)],H,[]):=cf rfl (d7j k hk) rfl
theorem e2m(k:Nat)(hk:k<256):sM 61 [.int .u8 k] []=some (.bool (a1r k),[]):=by
 by_cases h1:1<=k
 ·have c1:(1:Int)<=k:=by omega
  by_cases h2:k<=13
  ·have c2:(k:Int)<=13:=by omega
   rw[show a1r k=true by simp[a1r,h1,h2]]
   (refine sv Tryz.f61 ?_;simp only[Tryz.f61,gS])
   (repeat first|simp only[ww]|apply xa;simp+decide only[go_sem,c1,c2];rfl;kernel_rfl)
   (apply fqb;simp+decide only[go_sem]<;>rfl)
  ·have c2:¬(k:Int)<=13:=by omega
   rw[show a1r k=false by simp[a1r,h2]]
   (refine sv Tryz.f61 ?_;simp only[Tryz.f61,gS])
   (repeat first|simp only[ww]|apply xa;simp+decide only[go_sem,c1,c2];rfl;kernel_rfl)
   (apply fqb;simp+decide only[go_sem]<;>rfl)
 ·have c1:¬(1:Int)<=k:=by omega
  rw[show a1r k=false by simp[a1r,h1]]
  (refine sv Tryz.f61 ?_;simp only[Tryz.f61,gS])
  (repeat first|simp only[ww]|apply xa;simp+decide only[go_sem,c1];rfl;kernel_rfl)
  (apply fqb;simp+decide only[go_sem]<;>rfl)
theorem e22(k v:Nat):sM 136 [.slice 0 0 1 (some 1),.int .u8 v] [some (.row 1 [[.int .u8 k]])]=some (.int .i64 (if v=k then 0 else -1),[some (.row 1 [[.int .u8 k]])]):=by
 (refine sv Tryz.f136 ?_;simp only[Tryz.f136,gS])
 (repeat first|simp only[ww]|apply xa;simp+decide only[go_sem];rfl;kernel_rfl)
 refine a0m (σ:=Nat) kp136_0 (λi=>[(0,.slice 0 0 1 (some 1)),(1,.int .u8 v),(7,.int .i64 1),(8,.int .i64 i)])
  (λ_=>[some (.row 1 [[.int .u8 k]])]) (λi=>1-i) (λi=>i<=1∧(i=1->v≠k)) 0 ?_ (by simp) ?_
 ·(simp+decide only[go_sem,a01,a00]<;>rfl)
 ·rintro i ⟨hi,aw⟩
  have hh:i=0∨i=1:=by omega
  rcases hh with rfl|rfl
  ·by_cases h:v=k
   ·subst h
    (repeat first|simp only[ww]|apply xa;simp+decide only[go_sem,f2w];rfl;kernel_rfl)
    (apply fqb;simp+decide only[go_sem,f2w]<;>rfl)
   ·have c:¬(v:Int)=k:=by omega
    (repeat first|simp only[ww]|apply xa;simp+decide only[go_sem,c];rfl;kernel_rfl)
    refine a1m 1 ?_ (by omega) (by simp[h])
    (simp+decide only[go_sem,a01,a00]<;>rfl)
  ·have h:=aw rfl;have c:¬(v:Int)=k:=by omega
   rw[f2m h]
   (repeat first|simp only[ww]|apply xa;simp+decide only[go_sem,c];rfl;kernel_rfl)
   (apply fqb;simp+decide only[go_sem]<;>rfl)
theorem d7p(k v:Nat):sM 85 [.slice 0 0 1 (some 1),.int .u8 v] [some (.row 1 [[.int .u8 k]])]=some (.bool (decide (v=k)),[some (.row 1 [[.int .u8 k]])]):=by
 have hc:cl false 136 [.slice 0 0 1 (some 1),.int .u8 v] [some (.row 1 [[.int .u8 k]])]=some (.int .i64 (if v=k then 0 else -1),[some (.row 1 [[.int .u8 k]])],[0]):=a2g (by kernel_rfl) (by kernel_rfl) rfl rfl rfl (FlatO.row (FlatR.cons rfl FlatR.nil)) rfl rfl (e22 k v) rfl;by_cases h:v=k
 ·rw[f2w h]at hc
  (refine sv Tryz.f85 ?_;simp only[Tryz.f85,gS])
  (repeat first|simp only[ww]|apply xa;simp+decide only[go_sem,hc];rfl;kernel_rfl)
  (apply fqb;simp+decide only[go_sem,h]<;>rfl)
 ·rw[f2m h]at hc
  (refine sv Tryz.f85 ?_;simp only[Tryz.f85,gS])
  (repeat first|simp only[ww]|apply xa;simp+decide only[go_sem,hc];rfl;kernel_rfl)
  (apply fqb;simp+decide only[go_sem,h]<;>rfl)
theorem c91{d:Bool}(k v:Nat)(X:a03):cl d 85 [.slice 0 0 1 (some 1),.int .u8 v] (some (.row 1 [[.int .u8 k]])::X)=some (.bool (decide (v=k)),some (.row 1 [[.int .u8 k]])::X,[0]):=a2g (by kernel_rfl) (by kernel_rfl) rfl rfl rfl (FlatO.row (FlatR.cons rfl FlatR.nil)) rfl rfl (d7p k v) rfl
def a40(nodes:List Nd)(k i:Nat):List Nat:=(List.range i).filter λj=>decide (a0u nodes j=k)
theorem b54(nodes:List Nd)(k i:Nat):a40 nodes k (i+1)=if a0u nodes i=k then a40 nodes k i++[i]else a40 nodes k i:=by unfold a40;rw[f8o,List.filter_append];by_cases h:a0u nodes i=k<;>simp[h]
theorem b55(nodes:List Nd)(k i:Nat):(a40 nodes k i).length<=i:=g0n (List.length_filter_le _ _) (by simp)
def kinds(nodes:List Nd)(k:Nat):List Nat:=a40 nodes k nodes.length
def d2s(l:List Nat):AV:=sl (match l with|[]=>none|a::r=>some (some (r.length+1))) (l.map a13)
theorem c5x:d2s [] = .nilslice:=by rfl
theorem d2r(a:Nat)(r:List Nat):d2s (a::r) = .islice ((a::r).map a13) (some (r.length+1)):=by rfl
theorem a0x{nodes:List Nd}{i:Nat}{x:Nd}(h:nodes[i]?=some x):a0u nodes i=x.kind:=by simp[a0u,h]
theorem a19(l:List Nat):(l.map a13).flatMap a0d=[]:=a06 (FlatR.map λ_=>rfl)
theorem a1u(π:Nat->Option Nat)(l:List Nat):(l.map a13).map (λr=>r.map (ren π))=l.map a13:=a05 π (FlatR.map λ_=>rfl)
theorem d7h(l:List Nat):FlatR (l.map a13):=FlatR.map λ_=>rfl
theorem d7c{m:Nat}{d:AV->Option AV}(l:List Nat):a9t m d (l.map a13)=some (l.map a13):=a0z m d (FlatR.map λ_=>rfl)
theorem d7v:sM 86 [.nilslice] []=some (.nilslice,[]):=by
 (refine sv Tryz.f86 ?_;simp only[Tryz.f86,gS])
 (repeat first|simp only[ww]|apply xa;simp+decide only[go_sem];rfl;kernel_rfl)
 (apply fqb;simp+decide only[go_sem]<;>rfl)
theorem e2n(n:Nat)(aa:List (List AV))(hf:FlatR aa):sM 86 [.slice 0 0 n none] [some (.row 1 aa)]=some (.slice 0 0 n (some n),[some (.row 1 aa)]):=by
 have h1:=λπ=>a05 π hf
 (refine sv Tryz.f86 ?_;simp only[Tryz.f86,gS])
 (repeat first|simp only[ww]|apply xa;simp+decide only[go_sem];rfl;kernel_rfl)
 (apply fqb;simp+decide only[go_sem,h1]<;>rfl)
theorem d3q{d:Bool}{H:a03}{b n:Nat}{aa:List (List AV)}(hf:FlatR aa)(hb:a02 H b=some (.row 1 aa)):cl d 86 [.slice b 0 n none] H=some (.slice b 0 n (some n),H,[b]):=by have h:=a3h (E:=L.env) (ah:=d) (call:=sM) (g:=86) (fs:=[]) (cs:=[]) (ar:=[.slice b 0 n none]) (H:=H) (b:=b) (by kernel_rfl) (by kernel_rfl) rfl hb (a0p hf) (FlatO.row hf) rfl (au:=[AV.slice 0 0 n none]) (by simp only[f1e,f1b,f1a,f1g,a2b]) (e2n n aa hf) (FlatO.row hf) (a5c b 0 _ n _);rw[a9c hb]at h;exact h
theorem e6c(c:Cir)(k:Nat)(hl:c.nodes.length<1000000):sM 35 [.agg c.enc,.slice 0 0 1 (some 1)] [some (.row 1 [[.int .u8 k]])]=some (d2s (kinds c.nodes k),[some (.row 1 [[.int .u8 k]])]):=by
 have aR:=λv X=>c91 (d:=false) k v X
 (refine sv Tryz.f35 ?_;simp only[Tryz.f35,gS])
 (repeat first|simp only[ww]|apply xa;simp+decide only[go_sem,Cir.enc];rfl;kernel_rfl)
 refine a0m (σ:=Nat) kp35_0 (λi=>[(1,.slice 0 0 1 (some 1)),(5,grV 1 ((a40 c.nodes k i).map a13)),(9,sl c.nc (c.nodes.map Nd.enc)),(10,.int .i64 c.nodes.length),(11,.int .i64 i)])
  (λi=>some (.row 1 [[.int .u8 k]])::grH 1 ((a40 c.nodes k i).map a13)) (λi=>c.nodes.length-i) (λi=>i<=c.nodes.length) 0 ?_ (f2i _) ?_
 ·have e:a40 c.nodes k 0=[]:=rfl
  (simp+decide only[go_sem,a01,a00,e,f1g,a0r,a0s]<;>rfl)
 ·intro i hi;by_cases ai:i<c.nodes.length
  ·obtain⟨x,hx⟩:∃x,c.nodes[i]?=some x:=⟨_,z9e ai⟩
   have c1:(i:Int)<c.nodes.length:=by omega
   have hw:=wI1 (n:=i) (by omega);have hs:=b54 c.nodes k i;rw[a0x hx]at hs;have bf:=b55 c.nodes k i;have aD:(a40 c.nodes k i).length+1<=1000000000:=by omega
   by_cases hk:x.kind=k
   ·rw[f2w hk]at hs;generalize a40 c.nodes k i=l at hs bf aD;cases l with
    |nil=>
     (repeat first|simp only[ww]|apply xa;simp+decide only[go_sem,c1,ai,hx,hw,aR,hk,f1g,a0r,a0s];rfl;kernel_rfl)
     refine a1m (i+1) ?_ (by omega) (by omega);rw[hs]
     (simp+decide only[go_sem,a01,a00,f1g,f1e,f1a,a09,a0a,f1h]<;>rfl)
    |cons a r=>
     simp only[f1c]at aD
     (repeat first|simp only[ww]|apply xa;simp+decide only[go_sem,c1,ai,hx,hw,aR,hk,f1a,a09,a0a,aD,f1c];rfl;kernel_rfl)
     refine a1m (i+1) ?_ (by omega) (by omega);rw[hs]
     (simp+decide only[go_sem,a01,a00,f2o,f1a,a09,a0a,a19,a1u,f1c]<;>rfl)
   ·rw[f2m hk]at hs;have fC:¬(x.kind:Int)=k:=by omega
    generalize a40 c.nodes k i=l at hs bf aD;cases l with
    |nil=>
     (repeat first|simp only[ww]|apply xa;simp+decide only[go_sem,c1,ai,hx,hw,aR,hk,f1g,a0r,a0s];rfl;kernel_rfl)
     refine a1m (i+1) ?_ (by omega) (by omega);rw[hs]
     (simp+decide only[go_sem,a01,a00,f1g,a0r,a0s]<;>rfl)
    |cons a r=>
     (repeat first|simp only[ww]|apply xa;simp+decide only[go_sem,c1,ai,hx,hw,aR,hk,f1a,a09,a0a];rfl;kernel_rfl)
     refine a1m (i+1) ?_ (by omega) (by omega);rw[hs]
     (simp+decide only[go_sem,a01,a00,f1a,a09,a0a,a19,a1u]<;>rfl)
  ·obtain rfl:i=c.nodes.length:=by omega
   have c1:¬(c.nodes.length:Int)<c.nodes.length:=by omega
   unfold kinds;generalize a40 c.nodes k c.nodes.length=l;cases l with
   |nil=>
    have cM:=λH=>a0v (E:=L.env) (ah:=false) (call:=sM) (g:=86) (fs:=[]) (cs:=[]) (ar:=[.nilslice]) (H:=H) (by kernel_rfl) (by kernel_rfl) rfl rfl d7v rfl
    (repeat first|simp only[ww]|apply xa;simp+decide only[go_sem,c1,f1g,a0r,a0s,cM];rfl;kernel_rfl)
    (apply fqb;simp+decide only[go_sem,c5x]<;>rfl)
   |cons a r=>
    have cM:=d3q (d:=false) (H:=[some (.row 1 [[.int .u8 k]]),some (.row 1 ((a::r).map a13))]) (b:=1) (n:=r.length+1) (d7h _) rfl;simp only[f1a,go_sem]at cM
    (repeat first|simp only[ww]|apply xa;simp+decide only[go_sem,c1,f1a,a09,a0a,c10,cM];rfl;kernel_rfl)
    (apply fqb;simp+decide only[go_sem,d2r,f1a,d7c,f1c]<;>rfl)
theorem e0z(π:Nat->Option Nat)(c:Cir):ren π (.agg c.enc) = .agg c.enc:=a0b π _ (by simp only[a0n,Cir.enc,go_sem])
theorem b4c(l:List Nat):refs (d2s l)=[]:=a16 _ _
theorem b3b{d:Bool}{H:a03}{b:Nat}(c:Cir){k:Nat}{n:Int}(hn:n=k)(hl:c.nodes.length<1000000)(hb:a02 H b=some (.row 1 [[.int .u8 n]])) :
 cl d 35 [.agg c.enc,.slice b 0 1 (some 1)] H=some (d2s (kinds c.nodes k),H,[b]):=by
 subst hn;exact a2g (E:=L.env) (ah:=d) (call:=sM) (g:=35) (fs:=[]) (cs:=[]) (ar:=[.agg c.enc,.slice b 0 1 (some 1)]) (H:=H) (b:=b) (by kernel_rfl) (by kernel_rfl) rfl hb rfl (FlatO.row (FlatR.cons rfl FlatR.nil)) (by simp only[f1e,f1b,a04,a0n,Cir.enc,go_sem]) (au:=[.agg c.enc,.slice 0 0 1 (some 1)]) (by simp only[f1e,f1b,f1a,f1g,a2b,e0z]) (e6c c k hl) (b4c _)
theorem a4g(l:List Nat):∃r,d2s l=sl r (l.map a13):=⟨_,rfl⟩
theorem d2l(c:Cir)(hl:c.nodes.length<1000000):sM 13 [.agg c.enc] []=some (d2s (kinds c.nodes 0),[]):=by
 have hc:=λX=>b3b (d:=false) (H:=[X,some (.row 1 [[.int .u8 0]])]) (b:=1) c (k:=0) rfl hl rfl;obtain⟨r,hr⟩:=a4g (kinds c.nodes 0);rw[hr]at hc⊢;simp only[Cir.enc]at hc⊢
 (refine sv Tryz.f13 ?_;simp only[Tryz.f13,gS])
 (repeat first|simp only[ww]|apply xa;simp+decide only[go_sem,hc];rfl;kernel_rfl)
 (apply fqb;simp+decide only[go_sem]<;>rfl)
theorem d0i(c:Cir)(hl:c.nodes.length<1000000):sM 57 [.agg c.enc] []=some (d2s (kinds c.nodes 14),[]):=by
 have hc:=λX=>b3b (d:=false) (H:=[X,some (.row 1 [[.int .u8 14]])]) (b:=1) c (k:=14) rfl hl rfl;obtain⟨r,hr⟩:=a4g (kinds c.nodes 14);rw[hr]at hc⊢;simp only[Cir.enc]at hc⊢
 (refine sv Tryz.f57 ?_;simp only[Tryz.f57,gS])
 (repeat first|simp only[ww]|apply xa;simp+decide only[go_sem,hc];rfl;kernel_rfl)
 (apply fqb;simp+decide only[go_sem]<;>rfl)
theorem a3q{d:Bool}(H:a03)(c:Cir)(hl:c.nodes.length<1000000):cl d 13 [.agg c.enc] H=some (d2s (kinds c.nodes 0),H,[]):=cf (by simp only[a04,a0n,Cir.enc,go_sem]) (d2l c hl) (b4c _)
theorem a6d{d:Bool}(H:a03)(c:Cir)(hl:c.nodes.length<1000000):cl d 57 [.agg c.enc] H=some (d2s (kinds c.nodes 14),H,[]):=cf (by simp only[a04,a0n,Cir.enc,go_sem]) (d0i c hl) (b4c _)
def c7y(c:Cir):AV:=.func (.func 211) [] [.iptr c.enc]
theorem d11(c:Cir):refs (c7y c)=[]:=by rfl
theorem c7x(c:Cir):sM 175 [.agg c.enc] []=some (c7y c,[]):=by
 unfold c7y;simp only[Cir.enc]
 (refine sv Tryz.f175 ?_;simp only[Tryz.f175,gS])
 (repeat first|simp only[ww]|apply xa;simp+decide only[go_sem];rfl;kernel_rfl)
 (apply fqb;simp+decide only[go_sem]<;>rfl)
theorem a8q{d:Bool}(H:a03)(c:Cir):cl d 175 [.agg c.enc] H=some (c7y c,H,[]):=cf (by simp only[a04,a0n,Cir.enc,go_sem]) (c7x c) rfl
theorem e1a(c:Cir)(m:Nat)(hm:m<c.nodes.length):sM 211 [.int .i64 m,.iptr c.enc] []=some (.bool false,[]):=by
 have c1:¬(m:Int)<0:=by omega
 have c2:¬(c.nodes.length:Int)<=m:=by omega
 simp only[Cir.enc]
 (refine sv Tryz.f211 ?_;simp only[Tryz.f211,gS])
 (repeat first|simp only[ww]|apply xa;simp+decide only[go_sem,c1,c2];rfl;kernel_rfl)
 (apply fqb;simp+decide only[go_sem]<;>rfl)
theorem c1d{d:Bool}(H:a03)(c:Cir)(m:Nat)(hm:m<c.nodes.length):a20 L.env d sM (c7y c) [.int .i64 m] H=some (.bool false,H,[]):=cf (by simp only[a04,Cir.enc,go_sem]) (e1a c m hm) rfl
theorem d2p(r:Rep)(l:List Nat)(f:AV)(hf:refs f=[])(hl:l.length<1000000)(hc:∀m∈l,a20 L.env false sM f [.int .i64 m] []=some (.bool false,[],[])) :
 sM 210 [sl r (l.map a13),f] []=some (.int .i64 (-1),[]):=by
 have hr:∀π,ren π f=f:=λπ=>a0b π f hf
 (refine sv Tryz.f210 ?_;simp only[Tryz.f210,gS])
 (repeat first|simp only[ww]|apply xa;simp+decide only[go_sem];rfl;kernel_rfl)
 refine a0m (σ:=Nat) kp210_0 (λi=>[(0,sl r (l.map a13)),(1,f),(7,.int .i64 l.length),(8,.int .i64 i)])
  (λ_=>[]) (λi=>l.length-i) (λi=>i<=l.length) 0 ?_ (f2i _) ?_
 ·(simp+decide only[go_sem,a01,a00,hf,hr]<;>rfl)
 ·intro i hi;by_cases ai:i<l.length
  ·obtain⟨x,hx⟩:∃x,l[i]?=some x:=⟨_,z9e ai⟩
   have c1:(i:Int)<l.length:=by omega
   have hw:=wI1 (n:=i) (by omega);have gk:=hc x (c11 hx)
   (repeat first|simp only[ww]|apply xa;simp+decide only[go_sem,c1,ai,hx,hw,gk];rfl;kernel_rfl)
   refine a1m (i+1) ?_ (by omega) (by omega)
   (simp+decide only[go_sem,a01,a00,hf,hr]<;>rfl)
  ·obtain rfl:i=l.length:=by omega
   have c1:¬(l.length:Int)<l.length:=by omega
   (repeat first|simp only[ww]|apply xa;simp+decide only[go_sem,c1];rfl;kernel_rfl)
   (apply fqb;simp+decide only[go_sem]<;>rfl)
theorem b86(r:Rep)(l:List Nat)(f:AV)(hf:refs f=[])(hl:l.length<1000000)(hc:∀m∈l,a20 L.env false sM f [.int .i64 m] []=some (.bool false,[],[])) :
 sM 174 [sl r (l.map a13),f] []=some (.bool false,[]):=by
 have h:=λH=>a0v (E:=L.env) (ah:=false) (call:=sM) (g:=210) (fs:=[]) (cs:=[]) (ar:=[sl r (l.map a13),f]) (H:=H) (by kernel_rfl) (by kernel_rfl) rfl (by simp only[f1e,f1b,a04,hf,go_sem]) (d2p r l f hf hl hc) rfl;have c1:¬(0:Int)<= -1:=by omega
 (refine sv Tryz.f174 ?_;simp only[Tryz.f174,gS])
 (repeat first|simp only[ww]|apply xa;simp+decide only[go_sem,h,c1];rfl;kernel_rfl)
 (apply fqb;simp+decide only[go_sem]<;>rfl)
theorem c2e{d:Bool}(H:a03)(c:Cir)(r:Rep)(l:List Nat)(hl:l.length<1000000)(h:∀m∈l,m<c.nodes.length) :
 cl d 174 [sl r (l.map a13),c7y c] H=some (.bool false,H,[]):=
 cf (by simp only[f1e,f1b,a04,d11,go_sem]) (b86 r l (c7y c) rfl hl (λm hm=>c1d [] c m (h m hm))) rfl
/- the drivers of a bus -/
theorem d6a(c:Cir)(m:Nat)(hm:m<c.nodes.length)(hk:a0u c.nodes m=12):sM 206 [.int .i64 m,.ptr 0 0 0] [some (.row 4 [c.enc])]=some (.bool false,[some (.row 4 [c.enc])]):=by
 obtain⟨x,hx⟩:∃x,c.nodes[m]?=some x:=⟨_,z9e hm⟩
 rw[a0x hx]at hk;simp only[Cir.enc]
 (refine sv Tryz.f206 ?_;simp only[Tryz.f206,gS])
 (repeat first|simp only[ww]|apply xa;simp+decide only[go_sem,hx,hk,hm];rfl;kernel_rfl)
 (apply fqb;simp+decide only[go_sem]<;>rfl)
theorem a7e(c:Cir):FlatR [c.enc]:=FlatR.cons (by simp only[Cir.enc,go_sem]) FlatR.nil
theorem c7z{d:Bool}(H:a03)(c:Cir)(b m:Nat)(hb:a02 H b=some (.row 4 [c.enc]))(hm:m<c.nodes.length)(hk:a0u c.nodes m=12):a20 L.env d sM (.func (.func 206) [] [.ptr b 0 0]) [.int .i64 m] H=some (.bool false,H,[b]):=a2g (fs:=[]) (cs:=[.ptr b 0 0]) (ar:=[.int .i64 m]) (by kernel_rfl) (by kernel_rfl) rfl hb (a0p (a7e c)) (FlatO.row (a7e c)) rfl (au:=[.int .i64 m,.ptr 0 0 0]) (by simp[ren,a78]) (d6a c m hm hk) rfl
theorem c8m(r:Rep)(l:List Nat)(c:Cir)(hl:l.length<1000000)(hc:∀m∈l,m<c.nodes.length∧a0u c.nodes m=12) :
 sM 210 [sl r (l.map a13),.func (.func 206) [] [.ptr 0 0 0]] [some (.row 4 [c.enc])]=some (.int .i64 (-1),[some (.row 4 [c.enc])]):=by
 have bh:a0d c.enc=[]:=by simp only[Cir.enc,go_sem]
 have iE:∀π,c.enc.map (ren π)=c.enc:=λπ=>a31 π bh;have af:=λm h1 h2=>c7z (d:=false) [some (.row 4 [c.enc])] c 0 m rfl h1 h2;generalize he:c.enc=E at bh iE af
 (refine sv Tryz.f210 ?_;simp only[Tryz.f210,gS])
 (repeat first|simp only[ww]|apply xa;simp+decide only[go_sem];rfl;kernel_rfl)
 refine a0m (σ:=Nat) kp210_0 (λi=>[(0,sl r (l.map a13)),(1,.func (.func 206) [] [.ptr 0 0 0]),(7,.int .i64 l.length),(8,.int .i64 i)])
  (λ_=>[some (.row 4 [E])]) (λi=>l.length-i) (λi=>i<=l.length) 0 ?_ (f2i _) ?_
 ·(simp+decide only[go_sem,a01,a00,bh,iE]<;>rfl)
 ·intro i hi;by_cases ai:i<l.length
  ·obtain⟨x,hx⟩:∃x,l[i]?=some x:=⟨_,z9e ai⟩
   have c1:(i:Int)<l.length:=by omega
   have hw:=wI1 (n:=i) (by omega);have gk:=af x (hc x (c11 hx)).1 (hc x (c11 hx)).2
   (repeat first|simp only[ww]|apply xa;simp+decide only[go_sem,c1,ai,hx,hw,gk];rfl;kernel_rfl)
   refine a1m (i+1) ?_ (by omega) (by omega)
   (simp+decide only[go_sem,a01,a00,bh,iE]<;>rfl)
  ·obtain rfl:i=l.length:=by omega
   have c1:¬(l.length:Int)<l.length:=by omega
   (repeat first|simp only[ww]|apply xa;simp+decide only[go_sem,c1];rfl;kernel_rfl)
   (apply fqb;simp+decide only[go_sem,iE]<;>rfl)
theorem c2g(r:Rep)(l:List Nat)(c:Cir)(hl:l.length<1000000)(hc:∀m∈l,m<c.nodes.length∧a0u c.nodes m=12) :
 sM 174 [sl r (l.map a13),.func (.func 206) [] [.ptr 0 0 0]] [some (.row 4 [c.enc])]=some (.bool false,[some (.row 4 [c.enc])]):=by
 have h:=a2g (E:=L.env) (ah:=false) (call:=sM) (g:=210) (fs:=[]) (cs:=[]) (ar:=[sl r (l.map a13),.func (.func 206) [] [.ptr 0 0 0]]) (H:=[some (.row 4 [c.enc])]) (b:=0) (by kernel_rfl) (by kernel_rfl) rfl rfl (a0p (a7e c)) (FlatO.row (a7e c)) (by simp only[f1e,f1b,a04,go_sem]) (by simp only[f1e,f1b,f1a,f1g,b49];simp[ren,c0g,a78]) (c8m r l c hl hc) rfl;have c1:¬(0:Int)<= -1:=by omega
 have bh:a0d c.enc=[]:=by simp only[Cir.enc,go_sem]
 have iE:∀π,c.enc.map (ren π)=c.enc:=λπ=>a31 π bh;generalize he:c.enc=E at bh iE h
 (refine sv Tryz.f174 ?_;simp only[Tryz.f174,gS])
 (repeat first|simp only[ww]|apply xa;simp+decide only[go_sem,h,c1];rfl;kernel_rfl)
 (apply fqb;simp+decide only[go_sem,iE]<;>rfl)
theorem c4h{d:Bool}{H:a03}{b:Nat}(c:Cir)(r:Rep)(l:List Nat)(hl:l.length<1000000)(hc:∀m∈l,m<c.nodes.length∧a0u c.nodes m=12)(hb:a02 H b=some (.row 4 [c.enc])) :
 cl d 174 [sl r (l.map a13),.func (.func 206) [] [.ptr b 0 0]] H=some (.bool false,H,[b]):=
 a2g (fs:=[]) (cs:=[]) (ar:=[sl r (l.map a13),.func (.func 206) [] [.ptr b 0 0]]) (by kernel_rfl) (by kernel_rfl) rfl hb (a0p (a7e c)) (FlatO.row (a7e c)) (by simp only[f1e,f1b,a04,go_sem]) (by simp only[f1e,f1b,f1a,f1g,b49];simp[ren,c0g,a78]) (c2g r l c hl hc) rfl
theorem e7l(c:Cir)(x:Nd)(hm:x.mem=0∧x.bit=0)(hk:x.kind<=14):sM 207 [.agg c.enc,.agg x.enc] []=some (.bool true,[]):=by
 have c1:¬(x.kind:Int)=15:=by omega
 obtain⟨m1,m2⟩:=hm;simp only[Cir.enc,Nd.enc,m1,m2]
 (refine sv Tryz.f207 ?_;simp only[Tryz.f207,gS])
 (repeat first|simp only[ww]|apply xa;simp+decide only[go_sem,c1];rfl;kernel_rfl)
 (apply fqb;simp+decide only[go_sem]<;>rfl)
theorem d86{d:Bool}(H:a03)(c:Cir)(x:Nd)(hm:x.mem=0∧x.bit=0)(hk:x.kind<=14):cl d 207 [.agg c.enc,.agg x.enc] H=some (.bool true,H,[]):=cf (by simp only[a04,a0n,Cir.enc,go_sem]) (e7l c x hm hk) rfl
theorem e1i(c:Cir)(h:c.wf)(x:Nd)(hx:x∈c.nodes):sM 171 [.agg c.enc,.agg x.enc] []=some (.int .i64 0,[]):=by
 have k14:=h.kind x hx;have bX:=h.lo x hx;have my:=h.hi x hx;have ak:x.ins.length<1000000:=by
  have:a23 x.kind<=16:=by
   have hk:x.kind=0∨x.kind=1∨x.kind=2∨x.kind=3∨x.kind=4∨x.kind=5∨x.kind=6∨x.kind=7∨x.kind=8∨x.kind=9∨x.kind=10∨x.kind=11∨x.kind=12∨x.kind=13∨x.kind=14:=by omega
   rcases hk with e|e|e|e|e|e|e|e|e|e|e|e|e|e|e<;>rw[e]<;>decide
  omega
 have hf:=λH=>b22 (d:=false) H x.kind (by omega);have ho:=λH=>a8q (d:=true) H c;have hc:=λH=>c2e (d:=true) H c x.c x.ins ak (h.ins x hx);have hb:=λH=>d86 (d:=false) H c x (h.mem x hx) k14;have c1:¬(15:Int)<x.kind:=by omega
 have c2:¬(x.ins.length:Int)<a27 x.kind:=by omega
 have c3:¬(a23 x.kind:Int)<x.ins.length:=by omega
 have bh:a0d c.enc=[]:=by simp only[Cir.enc,go_sem]
 by_cases hk:x.kind=13
 ·have bL:=λ(X:Option AObj)=>c4h (d:=false) (H:=[some (.row 4 [c.enc]),X]) (b:=0) c x.c x.ins ak (λm hm=>⟨h.ins x hx m hm,h.bus x hx hk m hm⟩) rfl;have ck:decide ((x.kind:Int)=13)=true:=f4m (by omega);simp only[Cir.enc,Nd.enc]at ho hc hb bL⊢
  (refine sv Tryz.f171 ?_;simp only[Tryz.f171,gS])
  (repeat first|simp only[ww]|apply xa;simp+decide only[go_sem,hf,c1,c2,c3,ho,hc,hb,bL,ck];rfl;kernel_rfl)
  (apply fqb;simp+decide only[go_sem]<;>rfl)
 ·have ck:¬(x.kind:Int)=13:=by omega
  simp only[Cir.enc,Nd.enc]at ho hc hb⊢
  (refine sv Tryz.f171 ?_;simp only[Tryz.f171,gS])
  (repeat first|simp only[ww]|apply xa;simp+decide only[go_sem,hf,c1,c2,c3,ho,hc,hb,ck];rfl;kernel_rfl)
  (apply fqb;simp+decide only[go_sem]<;>rfl)
theorem d1h{d:Bool}(H:a03)(c:Cir)(h:c.wf)(x:Nd)(hx:x∈c.nodes):cl d 171 [.agg c.enc,.agg x.enc] H=some (.int .i64 0,H,[]):=cf (by simp only[a04,a0n,Cir.enc,go_sem]) (e1i c h x hx) rfl
theorem d2e(i:Nat)(hi:i<14):sM 208 [.str (a1l i)] []=some (.bool true,[]):=by
 have h:i=0∨i=1∨i=2∨i=3∨i=4∨i=5∨i=6∨i=7∨i=8∨i=9∨i=10∨i=11∨i=12∨i=13:=by omega
 rcases h with rfl|rfl|rfl|rfl|rfl|rfl|rfl|rfl|rfl|rfl|rfl|rfl|rfl|rfl
 ·exact c5t
 ·exact c5s
 ·exact c5r
 ·exact c5q
 ·exact c5p
 ·exact c5o
 ·exact c5n
 ·exact c5m
 ·exact c5l
 ·exact c5k
 ·exact c1z
 ·exact c1y
 ·exact c1x
 ·exact c1w
theorem c45{d:Bool}(H:a03)(i:Nat)(hi:i<14):cl d 208 [.str (a1l i)] H=some (.bool true,H,[]):=cf rfl (d2e i hi) rfl
def a5o(i:Nat):List AV:=(List.range i).map λj=>.str (a1l j)
theorem b4n(i:Nat):a5o (i+1)=a5o i++[.str (a1l i)]:=by unfold a5o;rw[f8o,f2t];rfl
theorem eqS(a b:List UInt8):aeq L.env 6 9 (.str a) (.str b)=some (a==b):=by kernel_rfl
theorem c1i{i j:Nat}(hi:i<14)(hj:j<14)(h:a1l i=a1l j):i=j:=by unfold a1l at h;simp only[List.cons.injEq,f8s,f9h]at h;have h1:=congrArg UInt8.toNat h.1;have h2:=congrArg UInt8.toNat h.2;simp only[UInt8.toNat_ofNat']at h1 h2;omega
theorem d3a(s:Nat)(hs:s<14):∀(l:List Nat) (b:Nat),(∀j∈l,j<s)->a1t (aeq L.env 6 9) (.str (a1l s)) (l.map λj=>.str (a1l j)) b=some none
 | [],b,_=>rfl
 |j::l,b,h=>by
  have aw:(a1l s==a1l j)=false:=by rw[f6o];intro e;have:=c1i hs (by have:=h j (by simp);omega) e;have:=h j (by simp);omega
  simp only[f1a,a1t,eqS,aw,f4i];exact d3a s hs l (b+1) (λj hj=>h j (by simp[hj]))
theorem d1n(i:Nat)(hi:i<14):a1t (aeq L.env 6 9) (.str (a1l i)) (a5o i) 0=some none:=d3a i hi _ 0 (λj hj=>by simpa using hj)
def nmO(i:Nat):AObj:=.map (a5o i) (List.replicate i (.bool true)) (List.range i) i
theorem d1m(i:Nat)(hi:i<14):a5e L.env (a02 [some (nmO i)]) 122 (.map 0) (.str (a1l i)) false=some (.bool false):=by
 have h:=d1n i hi;have e:a5e L.env (a02 [some (nmO i)]) 122 (.map 0) (.str (a1l i)) false=match a1t (aeq L.env 6 9) (.str (a1l i)) (a5o i) 0 with
  |some (some j)=>match(List.replicate i (AV.bool true))[j]? with
   |some v=>some (bif false then .tuple [v,.bool true]else v)
   |none=>none
  |some none=>some (.bool false)
  |none=>none:=by kernel_rfl
 rw[e,h]
theorem d1l(i:Nat)(hi:i<14):a21 L.env (a02 [some (nmO i)]) 122 (.map 0) (.str (a1l i)) (.bool true)=some (.set 0 (nmO (i+1))):=by
 have h:=d1n i hi;unfold a21;have e:a97 L.env (a02 [some (nmO i)]) 122 (.map 0) (.str (a1l i))=match a1t (aeq L.env 6 9) (.str (a1l i)) (a5o i) 0 with
  |some (some j)=>match(a5o i)[j]? with
   |some k0=>bif d46 k0 (.str (a1l i))then some (0,a5o i,List.replicate i (AV.bool true),List.range i,i,some j)else none
   |none=>none
  |some none=>some (0,a5o i,List.replicate i (AV.bool true),List.range i,i,none)
  |none=>none:=by kernel_rfl
 rw[e,h];simp only[nmO,b4n,f8o,List.replicate_succ']
theorem b4m(i:Nat):a12 (some (nmO i))=[]:=by
 simp only[nmO,a12,a5o];have h1:∀l:List Nat,a0d (l.map λj=>AV.str (a1l j))=[]:=by intro l;induction l with|nil=>rfl|cons a l ih=>simp[a0d,refs,ih]
 have h2:∀n,a0d (List.replicate n (AV.bool true))=[]:=by intro n;induction n with|zero=>rfl|succ n ih=>simp[f8i,a0d,refs,ih]
 rw[h1,h2];rfl
theorem c5g(π:Nat->Option Nat)(i:Nat):a0g π (nmO i)=nmO i:=by have h:=b4m i;simp only[nmO,a12,f8e]at h;simp only[nmO,a0g,a31 π h.1,a31 π h.2]
theorem d6i(c:Cir)(h:c.wf):sM 172 [.agg c.enc] []=some (.int .i64 0,[]):=by
 have hn:=h.len;have jt:c.names.length=c.nodes.length:=by rw[h.names];simp
 simp only[Cir.enc]
 (refine sv Tryz.f172 ?_;simp only[Tryz.f172,gS])
 (repeat first|simp only[ww]|apply xa;simp+decide only[go_sem];rfl;kernel_rfl)
 have e0:AObj.map [] [] [] 0=nmO 0:=by rfl
 refine a0m (σ:=Nat) kp172_0 (λi=>[(3,.map 0),(8,sl c.mc (c.names.map d0a)),(9,.int .i64 c.names.length),(10,.int .i64 i)])
  (λi=>[some (nmO i)]) (λi=>c.names.length-i) (λi=>i<=c.names.length) 0 ?_ (f2i _) ?_
 ·rw[e0]
  (simp+decide only[go_sem,a01,a00,b4m,c5g]<;>rfl)
 ·intro i hi;by_cases ai:i<c.names.length
  ·have hx:c.names[i]?=some (a1l i):=by rw[h.names,f1l,f6v (by omega)];rfl
   have c1:(i:Int)<c.names.length:=by omega
   have hw:=wI1 (n:=i) (by omega);have g8:=λH=>c45 (d:=false) H i (by omega);have pC:=d1m i (by omega);have kS:=d1l i (by omega)
   (repeat first|simp only[ww]|apply xa;simp+decide only[go_sem,c1,ai,hx,hw,g8,pC,kS];rfl;kernel_rfl)
   refine a1m (i+1) ?_ (by omega) (by omega)
   (simp+decide only[go_sem,a01,a00,b4m,c5g]<;>rfl)
  ·obtain rfl:i=c.names.length:=by omega
   have c1:¬(c.names.length:Int)<c.names.length:=by omega
   (repeat first|simp only[ww]|apply xa;simp+decide only[go_sem,c1];rfl;kernel_rfl)
   (apply fqb;simp+decide only[go_sem]<;>rfl)
theorem a4t(c:Cir):a0d [.agg c.enc]=[]:=by simp only[a04,a0n,Cir.enc,go_sem]
theorem c86{d:Bool}(H:a03)(c:Cir)(h:c.wf):cl d 172 [.agg c.enc] H=some (.int .i64 0,H,[]):=cf (a4t c) (d6i c h) rfl
theorem d5s(c:Cir)(h:c.wf):sM 134 [.agg c.enc] []=some (.int .i64 0,[]):=by
 have hn:=h.len;have jt:c.names.length=c.nodes.length:=by rw[h.names];simp
 have cE:=h.outl;have c1:¬(16384:Int)<c.nodes.length:=by omega
 have c2:¬(16384:Int)<c.outs.length:=by omega
 have cR:=λH x hx=>d1h (d:=false) H c h x hx;have gQ:=λH=>c86 (d:=false) H c h;have jr:=λH=>a8q (d:=true) H c;have mF:=λH=>c2e (d:=true) H c c.oc c.outs (by omega) h.outs;have ak:c.enc.length=4:=rfl;simp only[Cir.enc]at cR gQ jr mF⊢
 (refine sv Tryz.f134 ?_;simp only[Tryz.f134,gS])
 (repeat first|simp only[ww]|apply xa;simp+decide only[go_sem,c1,c2,jt];rfl;kernel_rfl)
 refine a0m (σ:=Nat) kp134_1 (λi=>[(1,.ptr 0 0 0),(36,sl c.nc (c.nodes.map Nd.enc)),(37,.int .i64 c.nodes.length),(38,.int .i64 i)])
  (λi=>[some (.row 4 [ce c])]) (λi=>c.nodes.length-i) (λi=>i<=c.nodes.length) 0 ?_ (f2i _) ?_
 ·(simp+decide only[go_sem,a01,a00]<;>rfl)
 ·intro i hi;by_cases ai:i<c.nodes.length
  ·obtain⟨x,hx⟩:∃x,c.nodes[i]?=some x:=⟨_,z9e ai⟩
   have c1:(i:Int)<c.nodes.length:=by omega
   have hw:=wI1 (n:=i) (by omega);have gk:=λH=>cR H x (c11 hx);simp only[Nd.enc]at gk
   (repeat first|simp only[ww]|apply xa;simp+decide only[go_sem,c1,ai,hx,hw,gk];rfl;kernel_rfl)
   refine a1m (i+1) ?_ (by omega) (by omega)
   (simp+decide only[go_sem,a01,a00]<;>rfl)
  ·obtain rfl:i=c.nodes.length:=by omega
   have c1:¬(c.nodes.length:Int)<c.nodes.length:=by omega
   (repeat first|simp only[ww]|apply xa;simp+decide only[go_sem,c1,gQ];rfl;kernel_rfl)
   refine a0m (σ:=Nat) kp134_3 (λi=>[(1,.ptr 0 0 0),(55,.nilslice),(56,.int .i64 0),(57,.int .i64 0)])
    (λi=>[some (.row 4 [ce c])]) (λi=>0) (λi=>True) 0 ?_ trivial ?_
   ·(simp+decide only[go_sem,a01,a00]<;>rfl)
   ·intro i _
    (repeat first|simp only[ww]|apply xa;simp+decide only[go_sem,jr,mF];rfl;kernel_rfl)
    (apply fqb;simp+decide only[go_sem]<;>rfl)
theorem c7i{d:Bool}(H:a03)(c:Cir)(h:c.wf):cl d 134 [.agg c.enc] H=some (.int .i64 0,H,[]):=cf (a4t c) (d5s c h) rfl
theorem a91{d:Bool}(H:a03)(k:Nat)(hk:k<256):cl d 61 [.int .u8 k] H=some (.bool (a1r k),H,[]):=cf rfl (e2m k hk) rfl
def foE(fo:List (List (Nat×Nat))):List (List (List AV)):=fo.map (·.map a4x)
theorem a2l(fo:List (List (Nat×Nat))):(foE fo).length=fo.length:=by unfold foE;simp
theorem a3s{fo:List (List (Nat×Nat))}{j:Nat}{L:List (Nat×Nat)}(h:fo[j]?=some L):(foE fo)[j]?=some (L.map a4x):=by unfold foE;rw[f1l,h];rfl
theorem b9r(fo:List (List (Nat×Nat)))(j:Nat)(L:List (Nat×Nat))(i k:Nat):(foE fo).set j (L.map a4x++[a4x (i,k)])=foE (fo.set j (L++[(i,k)])):=by unfold foE;rw[f6y,f2t];rfl
def J0(c:Cir)(n:Nat)(F:Frm)(H:a03):Prop:=∃i b aC fo,n=c.nodes.length-i∧i<=c.nodes.length∧
 F=[(3,.slice b 0 c.nodes.length (some c.nodes.length)),(4,c7y c),(18,sl c.nc (c.nodes.map Nd.enc)),(19,.int .i64 c.nodes.length),(20,.int .i64 i)]∧Two H b 2 aC (λ_=>none) (foE fo)∧FoOk c.nodes i 0 fo
def J2(c:Cir)(i:Nat)(x:Nd)(n:Nat)(F:Frm)(H:a03):Prop:=∃k b aC fo,n=x.ins.length-k∧k<=x.ins.length∧
 F=[(3,.slice b 0 c.nodes.length (some c.nodes.length)),(4,c7y c),(5,.int .i64 i),(18,sl c.nc (c.nodes.map Nd.enc)),(19,.int .i64 c.nodes.length),(20,.int .i64 i),(26,sl x.c (x.ins.map a13)),(27,.int .i64 x.ins.length),(28,.int .i64 k)]∧Two H b 2 aC (λ_=>none) (foE fo)∧FoOk c.nodes i k fo
def cpT(fo:List (List (Nat×Nat)))(t:Nat):Nat->Option Nat:=λj=>if j<t then(fo[j]?).map List.length else none
def J4(c:Cir)(fo:List (List (Nat×Nat)))(n:Nat)(F:Frm)(H:a03):Prop:=∃t b aC,n=c.nodes.length-t∧t<=c.nodes.length∧
 F=[(3,.slice b 0 c.nodes.length (some c.nodes.length)),(51,.slice b 0 c.nodes.length (some c.nodes.length)),(52,.int .i64 c.nodes.length),(53,.int .i64 t)]∧Two H b 2 aC (cpT fo t) (foE fo)
theorem c4z(H:a03)(n:Nat)(b:Nat)(h:a02 H b=some (.row 1 (List.replicate n [.nilslice]))):Two H b 2 (λ_=>0) (λ_=>none) (foE (List.replicate n [])):=by
 have gW:foE (List.replicate n [])=List.replicate n []:=by unfold foE;rw[f8y];rfl
 rw[gW];have cR:∀(j:Nat) (f:List (List AV)),(List.replicate n ([]:List (List AV)))[j]?=some f->f=[]:=by
  intro j f hf;rw[f4w]at hf;split at hf
  ·cases hf;rfl
  ·cases hf
 refine⟨?_,λj f hf aw=>absurd (cR j f hf) aw,λi j f g hf _ aw=>absurd (cR i f hf) aw,λf hf=>?_⟩
 ·rw[h]
  congr 2
  apply f4x;intro j;unfold a3j;rw[f4n,f4w,f4w];split<;>rfl
 ·rw[(List.mem_replicate.1 hf).2];exact FlatR.nil
theorem c6h(fo:List (List (Nat×Nat))):cpT fo 0=λ_=>none:=by funext j;simp[cpT]
theorem c6i{fo:List (List (Nat×Nat))}{t:Nat}{L:List (Nat×Nat)}(h:fo[t]?=some L):(λi=>if i=t then some L.length else cpT fo t i)=cpT fo (t+1):=by
 funext j
 unfold cpT;by_cases h1:j=t
 ·subst h1;simp[h]
 ·by_cases h2:j<t
  ·simp[h1,h2,show j<t+1 by omega]
  ·simp[h1,h2,show ¬j<t+1 by omega]
theorem d3s:sM 176 [.nilslice] []=some (.nilslice,[]):=by
 (refine sv Tryz.f176 ?_;simp only[Tryz.f176,gS])
 (repeat first|simp only[ww]|apply xa;simp+decide only[go_sem];rfl;kernel_rfl)
 (apply fqb;simp+decide only[go_sem]<;>rfl)
theorem d7x(n:Nat)(aa:List (List AV))(hf:FlatR aa):sM 176 [.slice 0 0 n none] [some (.row 2 aa)]=some (.slice 0 0 n (some n),[some (.row 2 aa)]):=by
 have h1:=λπ=>a05 π hf
 (refine sv Tryz.f176 ?_;simp only[Tryz.f176,gS])
 (repeat first|simp only[ww]|apply xa;simp+decide only[go_sem];rfl;kernel_rfl)
 (apply fqb;simp+decide only[go_sem,h1]<;>rfl)
theorem b5q{d:Bool}(H:a03):cl d 176 [.nilslice] H=some (.nilslice,H,[]):=cf rfl d3s rfl
theorem b88{d:Bool}{H:a03}{b n:Nat}{aa:List (List AV)}(hf:FlatR aa)(hb:a02 H b=some (.row 2 aa)):cl d 176 [.slice b 0 n none] H=some (.slice b 0 n (some n),H,[b]):=by have h:=a3h (E:=L.env) (ah:=d) (call:=sM) (g:=176) (fs:=[]) (cs:=[]) (ar:=[.slice b 0 n none]) (H:=H) (b:=b) (by kernel_rfl) (by kernel_rfl) rfl hb (a0p hf) (FlatO.row hf) rfl (au:=[AV.slice 0 0 n none]) (by simp only[f1e,f1b,f1a,f1g,a2b]) (d7x n aa hf) (FlatO.row hf) (a5c b 0 _ n _);rw[a9c hb]at h;exact h
theorem d3d(c:Cir)(h:c.wf):∃r:AV×a03,(∃fo,FoOk c.nodes c.nodes.length 0 fo∧r=(AV.islice ((foE fo).mapIdx λj f=>[slF (cpT fo c.nodes.length j) f]) (some c.nodes.length),[]))∧sM 135 [.agg c.enc] []=some r:=by
 have hn:=h.len;have jr:=λH=>a8q (d:=false) H c;have aD:c.nodes.length<=1000000000:=by omega
 have hov:refs (c7y c)=[]:=rfl;have bM:∀π,ren π (c7y c)=c7y c:=λπ=>a0b π _ rfl;have eE:=λH m hm=>c1d (d:=false) H c m hm;generalize hO:c7y c=O at jr hov bM eE;simp only[Cir.enc]at jr⊢
 (refine svE Tryz.f135 ?_;simp only[Tryz.f135,gS])
 (repeat first|simp only[ww]|apply xa;simp+decide only[go_sem,jr,aD];rfl;kernel_rfl)
 refine a3i kp135_0 (J0 c) (c.nodes.length-0) ?_ ?_
 ·refine a2z (c4z _ c.nodes.length 1 rfl) ?_ (by rw[a2l];simp;omega) ?_
  ·exact .inl (by simp+decide only[go_sem,hov])
  ·intro π b' aK H1 hb hT;refine⟨0,b',aK,_,rfl,f2i _,?_,hT,FoOk.zero _⟩;simp+decide only[go_sem,hb,bM,hO]<;>rfl
 ·rintro n F H ⟨i,b,aC,fo,rfl,hi,rfl,hT,hF⟩
  by_cases ai:i<c.nodes.length
  ·obtain⟨x,hx⟩:∃x,c.nodes[i]?=some x:=⟨_,z9e ai⟩
   have c1:(i:Int)<c.nodes.length:=by omega
   have hw:=wI1 (n:=i) (by omega);have dm:=a1i hT.top;have kQ:=a1s hx;rw[hO]
   (repeat first|simp only[ww]|apply xa;simp+decide only[go_sem,c1,ai,hx,hw,heapF_hi0,a5l,b08,b3z,a43];rfl;kernel_rfl)
   refine a3i kp135_2 (J2 c i x) (x.ins.length-0) ?_ ?_
   ·refine a2z (hT.more) ?_ (by rw[a2l,hF.len];omega) ?_
    ·exact .inl (by simp+decide only[go_sem,hov])
    ·intro π b' aK H1 hb hT;refine⟨0,b',aK,_,rfl,f2i _,?_,hT,hF⟩;simp+decide only[go_sem,hb,bM,hO]<;>rfl
   ·rintro n F H ⟨k,b,aC,fo,rfl,hk,rfl,hT,hF⟩
    rw[hO];by_cases bH:k<x.ins.length
    ·obtain⟨m,hm⟩:∃m,x.ins[k]?=some m:=⟨_,z9e bH⟩
     have bW:=h.ins x (c11 hx) m (c11 hm);have pk:=λH=>eE H m bW;have c2:(k:Int)<x.ins.length:=by omega
     have bQ:=h.insl (c11 hx);have eO:=wI1 (n:=k) (by omega);have dm:=a1i hT.top;have ey:=hT.top;have fF:m<fo.length:=by rw[hF.len];exact bW
     obtain⟨L,hL⟩:∃L,fo[m]?=some L:=⟨_,z9e fF⟩
     have aM:=a6g (aC:=aC) (cp:=λ_=>none) (a3s hL);have bF:=hF.step (by rw[kQ];exact hm) hL;have bT:(a3j aC (λ_=>none) (foE fo)).length=c.nodes.length:=by rw[a3n,a2l,hF.len]
     cases L with
     |nil=>
      simp only[f1g,slV]at aM
      (repeat first|simp only[ww]|apply xa;simp+decide only[go_sem,c2,bH,hm,eO,pk,dm,ey,bW,aM,heapF_hi0,a5l,a3y,b08,b3z,c0y,a43,a5k,e12,f2o,f1e,bT];rfl;kernel_rfl)
      refine a0y (x.ins.length-(k+1)) (by omega) ?_;have eU:=hT.app1 (o:=some (.row 2 [a4x (i,k)])) (x:=a4x (i,k)) (a3s hL) rfl rfl;have e2:(foE fo).set m [a4x (i,k)]=foE (fo.set m ([]++[(i,k)])):=b9r fo m [] i k;rw[e2]at eU;refine a2z eU ?_ (by rw[a2l,f4q,hF.len];omega) ?_
      ·exact .inl (by simp+decide only[go_sem,hov])
      ·intro π b' aK H1 hb hT;refine⟨k+1,b',aK,_,rfl,bH,?_,hT,bF⟩;simp+decide only[go_sem,hb,bM,hO]<;>rfl
     |cons a r=>
      simp only[f1a,slV]at aM;have aV:=hT.sub m _ (a3s hL) (by simp);obtain⟨s1,s2⟩:=aV;have s3:=a1i s1;simp only[f1a]at s1;have nR:r.length+1+1<=1000000000:=by have:=hF.total hL (h.len) (λy hy=>h.insl hy);simp only[f1c]at this;omega
      (repeat first|simp only[ww]|apply xa;simp+decide only[go_sem,c2,bH,hm,eO,pk,dm,ey,bW,aM,heapF_hi0,a5l,a3y,b7r,f4q,s1,s2,s3,nR,b08,b3z,c0y,a43,a5k,e12,f2o,f1e,bT];rfl;kernel_rfl)
      refine a0y (x.ins.length-(k+1)) (by omega) ?_;have eU:=hT.app2 (o:=some (.row 2 [a4x (i,k)])) (x:=a4x (i,k)) (a3s hL) rfl rfl;have e2:(foE fo).set m (a4x a::List.map a4x r++[a4x (i,k)])=foE (fo.set m (a::r++[(i,k)])):=b9r fo m (a::r) i k;rw[e2]at eU;rw[c10]at eU;refine a2z eU ?_ (by rw[a2l,f4q,hF.len];omega) ?_
      ·exact .inl (by simp+decide only[go_sem,hov])
      ·intro π b' aK H1 hb hT;refine⟨k+1,b',aK,_,rfl,bH,?_,hT,bF⟩;simp+decide only[go_sem,hb,bM,hO]<;>rfl
    ·obtain rfl:k=x.ins.length:=by omega
     have c2:¬(x.ins.length:Int)<x.ins.length:=by omega
     (repeat first|simp only[ww]|apply xa;simp+decide only[go_sem,c2,hw];rfl;kernel_rfl)
     refine a0y (c.nodes.length-(i+1)) (by omega) ?_;refine a2z hT ?_ (by rw[a2l,hF.len];omega) ?_
     ·exact .inl (by simp+decide only[go_sem,hov])
     ·intro π b' aK H1 hb hT;refine⟨i+1,b',aK,_,rfl,by omega,?_,hT,hF.next (by rw[kQ])⟩;simp+decide only[go_sem,hb,bM,hO]<;>rfl
  ·obtain rfl:i=c.nodes.length:=by omega
   have c1:¬(c.nodes.length:Int)<c.nodes.length:=by omega
   rw[hO]
   (repeat first|simp only[ww]|apply xa;simp+decide only[go_sem,c1];rfl;kernel_rfl)
   refine a3i kp135_4 (J4 c fo) (c.nodes.length-0) ?_ ?_
   ·refine a2z hT ?_ (by rw[a2l,hF.len];omega) ?_
    ·exact .inr (by simp+decide only[go_sem,hov])
    ·intro π b' aK H1 hb hT;refine⟨0,b',aK,rfl,f2i _,?_,by rw[c6h];exact hT⟩;simp+decide only[go_sem,hb,bM,hO]<;>rfl
   ·rintro n F H ⟨t,b,aC,rfl,ht,rfl,hT⟩
    by_cases dE:t<c.nodes.length
    ·have c2:(t:Int)<c.nodes.length:=by omega
     have eO:=wI1 (n:=t) (by omega);have dm:=a1i hT.top;have ey:=hT.top;obtain⟨L,hL⟩:∃L,fo[t]?=some L:=⟨_,z9e (by rw[hF.len];exact dE)⟩
     have aM:=a6g (aC:=aC) (cp:=cpT fo t) (a3s hL);have sh:cpT fo t t=none:=by simp[cpT]
     have bT:(a3j aC (cpT fo t) (foE fo)).length=c.nodes.length:=by rw[a3n,a2l,hF.len]
     rw[sh]at aM;have dB:∀H1,H1=H.set b (some (.row 1 ((a3j aC (cpT fo t) (foE fo)).set t [slV (aC t) (some L.length) (L.map a4x)])))->Two H1 b 2 aC (cpT fo (t+1)) (foE fo):=by
      intro H1 nU;have:=hT.clip (H1:=H1) (a3s hL) (by rw[nU,b2o dm]) (λc hc=>by rw[nU,a6v (f9l hc)])
      rwa [c6i hL]at this
     cases L with
     |nil=>
      simp only[f1g,slV]at aM;have cM:=λH=>b5q (d:=false) H
      (repeat first|simp only[ww]|apply xa;simp+decide only[go_sem,c2,dE,eO,dm,ey,aM,cM,bT,f4q];rfl;kernel_rfl)
      refine a0y (c.nodes.length-(t+1)) (by omega) ?_;refine a2z (dB _ rfl) ?_ (by rw[a2l,hF.len];omega) ?_
      ·exact .inr (by simp+decide only[go_sem,hov])
      ·intro π b' aK H1 hb hT;refine⟨t+1,b',aK,rfl,by omega,?_,hT⟩;simp+decide only[go_sem,hb,bM,hO]<;>rfl
     |cons a r=>
      simp only[f1a,slV]at aM;obtain⟨s1,s2⟩:=hT.sub t _ (a3s hL) (by simp);have cM:=b88 (d:=false) (H:=H) (b:=aC t) (n:=r.length+1) (hT.flat _ (c11 (a3s hL))) s1
      (repeat first|simp only[ww]|apply xa;simp+decide only[go_sem,c2,dE,eO,dm,ey,aM,cM,bT,f4q];rfl;kernel_rfl)
      refine a0y (c.nodes.length-(t+1)) (by omega) ?_;refine a2z (dB _ (by simp only[f1a,slV,c10,f1c])) ?_ (by rw[a2l,hF.len];omega) ?_
      ·exact .inr (by simp+decide only[go_sem,hov])
      ·intro π b' aK H1 hb hT;refine⟨t+1,b',aK,rfl,by omega,?_,hT⟩;simp+decide only[go_sem,hb,bM,hO]<;>rfl
    ·obtain rfl:t=c.nodes.length:=by omega
     have c2:¬(c.nodes.length:Int)<c.nodes.length:=by omega
     have hz:=hT.frz (some c.nodes.length);rw[a2l,hF.len]at hz
     (repeat first|simp only[ww]|apply xa;simp+decide only[go_sem,c2];rfl;kernel_rfl)
     refine b6h (vs:=[.slice b 0 c.nodes.length (some c.nodes.length)]) (r:=(_,[])) (by simp+decide only[go_sem]) ?_ ⟨fo,hF,rfl⟩;show a22 false 0 (.slice b 0 c.nodes.length (some c.nodes.length)) H=_;rw[c29,hz];rfl
def foR(c:Cir)(fo:List (List (Nat×Nat))):List (List AV):=(foE fo).mapIdx λj f=>[slF (cpT fo c.nodes.length j) f]
theorem d36{c:Cir}{fo:List (List (Nat×Nat))}{j:Nat}{L:List (Nat×Nat)}(h:fo[j]?=some L)(hj:j<c.nodes.length):(foR c fo)[j]?=some [slF (some L.length) (L.map a4x)]:=by unfold foR;rw[f4n,a3s h];simp[cpT,hj,h]
theorem c4e(c:Cir)(h:c.wf):∃fo,FoOk c.nodes c.nodes.length 0 fo∧∀(d:Bool) (H:a03),cl d 135 [.agg c.enc] H=some (.islice (foR c fo) (some c.nodes.length),H,[]):=by obtain⟨r,⟨fo,h1,rfl⟩,h2⟩:=d3d c h;exact⟨fo,h1,λd H=>cf (a4t c) h2 rfl⟩
def kcb(c:Cir):Option AObj:=some (.row 4 [ce c])
attribute [go_sem] kcb
def JL2(c:Cir)(fo:List (List (Nat×Nat)))(n:Nat)(F:Frm)(H:a03):Prop:=∃(out left ready:List Nat) (done:Nat),n=c.nodes.length-done∧
 F=[(1,.ptr 0 0 0),(5,.slice 1 0 c.nodes.length (some c.nodes.length)),(6,.slice 2 0 c.nodes.length (some c.nodes.length)),(7,grV 3 (ready.map a13)),(10,.islice (foR c fo) (some c.nodes.length)),(11,.int .i64 done)]∧
 H=[kcb c,some (.row 1 (out.map a13)),some (.row 1 (left.map a13))]++grH 1 (ready.map a13)∧Kahn c.nodes left ready done []∧out.length=c.nodes.length∧(∀v∈out,v<=300*done)∧Lev c.nodes out ready done []
def JL4(c:Cir)(fo:List (List (Nat×Nat)))(done x:Nat)(L:List (Nat×Nat))(n:Nat)(F:Frm)(H:a03):Prop:=∃(out left ready:List Nat) (q:Nat),n=L.length-q∧q<=L.length∧
 F=[(1,.ptr 0 0 0),(5,.slice 1 0 c.nodes.length (some c.nodes.length)),(6,.slice 2 0 c.nodes.length (some c.nodes.length)),(7,grV 3 (ready.map a13)),(10,.islice (foR c fo) (some c.nodes.length)),(11,.int .i64 (done+1:Nat)),(12,.int .i64 x),(76,.islice (L.map a4x) (some L.length)),(77,.int .i64 L.length),(78,.int .i64 q)]∧
 H=[kcb c,some (.row 1 (out.map a13)),some (.row 1 (left.map a13))]++grH 1 (ready.map a13)∧Kahn c.nodes left ready done (L.take q)∧ready[done]?=some x∧out.length=c.nodes.length∧(∀v∈out,v<=300*done+q)∧Lev c.nodes out ready done (L.take q)
theorem f0w(n:Nat):List.replicate n [AV.int .i64 0]=(List.replicate n 0).map a13:=by rw[f8y];rfl
theorem c6v(a b:Nat):d50 (.int .i64 a) [.int .i64 (b:Int)]=some (.int .i64 ((max a b:Nat):Int)):=by
 simp only[d50];by_cases h:(b:Int)>a
 ·rw[f2w h];congr 2;omega
 ·rw[f2m h];congr 2;omega
theorem d27(c:Cir)(h:c.wf):∃r:AV×a03,(∃lv:List Nat,lv.length=c.nodes.length∧(∀v∈lv,v<=100000)∧Rises c.nodes lv∧r=(.tuple [.islice (lv.map a13) (some c.nodes.length),.int .i64 0],[]))∧sM 84 [.agg c.enc] []=some r:=by
 have hn:=h.len;obtain⟨fo,gW,jH⟩:=c4e c h;have jH:=jH false;have eQ:=λH=>c7i (d:=false) H c h;have aD:c.nodes.length<=1000000000:=by omega
 have uQ:a12 (kcb c)=[]:=by simp only[go_sem]
 simp only[Cir.enc]at jH eQ⊢
 (refine svE Tryz.f84 ?_;simp only[Tryz.f84,gS])
 (repeat first|simp only[ww]|apply xa;simp+decide only[go_sem,eQ,aD];rfl;kernel_rfl)
 refine a0m (σ:=Nat) kp84_0 (λi=>[(1,.ptr 0 0 0),(5,.slice 1 0 c.nodes.length (some c.nodes.length)),(6,.slice 2 0 c.nodes.length (some c.nodes.length)),(7,grV 3 ((a2k c.nodes i).map a13)),(29,sl c.nc (c.nodes.map Nd.enc)),(30,.int .i64 c.nodes.length),(31,.int .i64 i)])
  (λi=>[kcb c,some (.row 1 ((List.replicate c.nodes.length 0).map a13)),some (.row 1 ((a2e c.nodes i).map a13))]++grH 1 ((a2k c.nodes i).map a13)) (λi=>c.nodes.length-i) (λi=>i<=c.nodes.length) 0 ?_ (f2i _) ?_
 ·rw[b51,show a2k c.nodes 0=[]from rfl]
  (simp+decide only[go_sem,a01,a00,f0w,f1g,a0r,a0s,a19,a1u]<;>rfl)
 ·intro i hi;by_cases ai:i<c.nodes.length
  ·obtain⟨x,hx⟩:∃x,c.nodes[i]?=some x:=⟨_,z9e ai⟩
   have c1:(i:Int)<c.nodes.length:=by omega
   have hw:=wI1 (n:=i) (by omega);have k14:=h.kind x (c11 hx);have bZ:=λH=>a91 (d:=false) H x.kind (by omega);have a7:(a2e c.nodes i).length=c.nodes.length:=by simp[a2e]
   have eJ:(a2e c.nodes i)[i]?=some 0:=by rw[a4i ai];simp
   have bT:=b73 c.nodes i;have bS:=b2k c.nodes i;have aF:=b0c ai;have eF:(a2e c.nodes (i+1))[i]?=some (a9m c.nodes i):=by rw[a4i ai];simp
   have bn:a9m c.nodes i=if a1r x.kind=true then x.ins.length else 0:=by unfold a9m;rw[a0x hx,a1s hx]
   have cK:((a2e c.nodes i).map a13).set i [AV.int .i64 (a9m c.nodes i)]=(a2e c.nodes (i+1)).map a13:=by rw[<-aF,f6y];rfl
   by_cases bv:a1r x.kind=true
   ·rw[f2w bv]at bn;rw[bn]at cK eF bS;by_cases hz:x.ins.length=0
    ·rw[f2w hz]at bS;have d8:(x.ins.length:Int)=0:=by omega
     rw[hz]at cK eF;generalize a2k c.nodes i=l at bT bS;cases l with
     |nil=>
      (repeat first|simp only[ww]|apply xa;simp+decide only[go_sem,c1,ai,hx,hw,bZ,bv,a7,eJ,cK,eF,hz,f1g,a0r,a0s];rfl;kernel_rfl)
      refine a1m (i+1) ?_ (by omega) (by omega);rw[bS]
      (simp+decide only[go_sem,a01,a00,f1g,f1e,f1a,a09,a0a,f1h,a19,a1u]<;>rfl)
     |cons a r=>
      simp only[f1c]at bT;have eB:r.length+1+1<=1000000000:=by omega
      (repeat first|simp only[ww]|apply xa;simp+decide only[go_sem,c1,ai,hx,hw,bZ,bv,a7,eJ,cK,eF,hz,f1a,a09,a0a,eB,f1c];rfl;kernel_rfl)
      refine a1m (i+1) ?_ (by omega) (by omega);rw[bS]
      (simp+decide only[go_sem,a01,a00,f2o,f1a,a09,a0a,a19,a1u,f1c]<;>rfl)
    ·rw[f2m hz]at bS;have d8:¬(x.ins.length:Int)=0:=by omega
     generalize a2k c.nodes i=l at bT bS;cases l with
     |nil=>
      (repeat first|simp only[ww]|apply xa;simp+decide only[go_sem,c1,ai,hx,hw,bZ,bv,a7,eJ,cK,eF,d8,f1g,a0r,a0s];rfl;kernel_rfl)
      refine a1m (i+1) ?_ (by omega) (by omega);rw[bS]
      (simp+decide only[go_sem,a01,a00,f1g,a0r,a0s,a19,a1u]<;>rfl)
     |cons a r=>
      (repeat first|simp only[ww]|apply xa;simp+decide only[go_sem,c1,ai,hx,hw,bZ,bv,a7,eJ,cK,eF,d8,f1a,a09,a0a];rfl;kernel_rfl)
      refine a1m (i+1) ?_ (by omega) (by omega);rw[bS]
      (simp+decide only[go_sem,a01,a00,f1a,a09,a0a,a19,a1u]<;>rfl)
   ·have bv:a1r x.kind=false:=by simpa using bv
    rw[bv]at bn;have bn:a9m c.nodes i=0:=bn;rw[bn,f2w rfl]at bS;have bP:=b52 ai bn
    ·
     generalize a2k c.nodes i=l at bT bS;cases l with
     |nil=>
      (repeat first|simp only[ww]|apply xa;simp+decide only[go_sem,c1,ai,hx,hw,bZ,bv,a7,eJ,f1g,a0r,a0s];rfl;kernel_rfl)
      refine a1m (i+1) ?_ (by omega) (by omega);rw[bS,<-bP]
      (simp+decide only[go_sem,a01,a00,f1g,f1e,f1a,a09,a0a,f1h,a19,a1u]<;>rfl)
     |cons a r=>
      simp only[f1c]at bT;have eB:r.length+1+1<=1000000000:=by omega
      (repeat first|simp only[ww]|apply xa;simp+decide only[go_sem,c1,ai,hx,hw,bZ,bv,a7,eJ,f1a,a09,a0a,eB,f1c];rfl;kernel_rfl)
      refine a1m (i+1) ?_ (by omega) (by omega);rw[bS,<-bP]
      (simp+decide only[go_sem,a01,a00,f2o,f1a,a09,a0a,a19,a1u,f1c]<;>rfl)
  ·obtain rfl:i=c.nodes.length:=by omega
   have c1:¬(c.nodes.length:Int)<c.nodes.length:=by omega
   have hK:=Kahn.start c.nodes;generalize a2k c.nodes c.nodes.length=ready at hK;generalize a2e c.nodes c.nodes.length=left at hK
   (repeat first|simp only[ww]|apply xa;simp+decide only[go_sem,c1,jH];rfl;kernel_rfl)
   refine a3i kp84_2 (JL2 c fo) (c.nodes.length-0) ?_ ?_
   ·refine⟨_,_,?_,List.replicate c.nodes.length 0,left,ready,0,rfl,rfl,rfl,hK,by simp,by simp,Lev.start _ _ _⟩;cases ready with
    |nil=>(simp+decide only[go_sem,a01,a00,f1g,a0r,a0s,a19,a1u]<;>rfl)
    |cons a r=>(simp+decide only[go_sem,a01,a00,f1a,a09,a0a,a19,a1u]<;>rfl)
   ·rintro n F H ⟨out,left,ready,done,rfl,rfl,rfl,hK,cE,ek,hV⟩
    have aw:ready≠[]:=by
     rintro rfl
     have nB:done=0:=by have:=hK.dle;simpa using this
     subst nB;have h1:c.nodes.length<=0:=hK.all h.acyc;have h2:=h.pos;omega
    have hE:=hK.bound;have jK:=hK.dle;have bj:ready.map a13≠[]:=by simpa using aw
    rw[a4z 3 bj,a50 1 bj,c10];have oW:=wI1 (n:=done) (by omega);have a7:=hK.ll;by_cases ai:done<ready.length
    ·obtain⟨x,hx⟩:∃x,ready[done]?=some x:=⟨_,z9e ai⟩
     have lk:=hK.rn x (c11 hx);have c1:(done:Int)<ready.length:=by omega
     obtain⟨L,hL⟩:∃L,fo[x]?=some L:=⟨_,z9e (by rw[gW.len];exact lk)⟩
     have qM:=gW.node hL (f2q _);have vv:=gW.total hL hn (λy hy=>h.insl hy);have kJ:∀a,a<c.nodes.length->cnt L a=(a28 c.nodes a).count x:=λa ha=>by rw[gW.num x L hL a,f2w ha]
     have hg:=d36 hL lk;cases hLL:L with
     |nil=>
      subst hLL;simp only[f1g,slF]at hg
      (repeat first|simp only[ww]|apply xa;simp+decide only[go_sem,c1,ai,hx,oW,hg];rfl;kernel_rfl)
      refine a0y (c.nodes.length-(done+1)) (by omega) ⟨_,_,?_,out,left,ready,done+1,rfl,rfl,rfl,hK.next hx kJ,cE,λv hv=>by have:=ek v hv;omega,hV.next hx kJ⟩;rw[a4z 3 bj,a50 1 bj]
      (simp+decide only[go_sem,a01,a00,a19,a1u]<;>rfl)
     |cons l0 lr=>
      rw[hLL]at hg;simp only[f1a,slF]at hg;rw[<-f1a,<-hLL]at hg;have vw:L.length≠0:=by rw[hLL];simp
      have sN:¬(L.length:Int)=0:=by omega
      have nR:(L.map a4x).length=L.length:=c10 ..
      (repeat first|simp only[ww]|apply xa;simp+decide only[go_sem,c1,ai,hx,oW,hg,sN,nR];rfl;kernel_rfl)
      refine a3i kp84_4 (JL4 c fo done x L) (L.length-0) ?_ ?_
      ·refine⟨_,_,?_,out,left,ready,0,rfl,f2i _,rfl,rfl,by rw[f2j];exact hK,hx,cE,λv hv=>by have:=ek v hv;omega,by rw[f2j];exact hV⟩;rw[a4z 3 bj,a50 1 bj]
       (simp+decide only[go_sem,a01,a00,a19,a1u]<;>rfl)<;>rfl
      ·clear hK hE jK bj a7 ek cE hx ai c1 aw hV
       rintro n F H ⟨out,left,ready,q,rfl,hq,rfl,rfl,hK,hx,cE,ek,hV⟩
       have hE:=hK.bound;have kz:=(f1i.1 hx).1;have aw:ready≠[]:=by rintro rfl;simp at kz
       have bj:ready.map a13≠[]:=by simpa using aw
       rw[a4z 3 bj,a50 1 bj,c10];have a7:=hK.ll;have dq:=wI1 (n:=q) (by omega);by_cases gK:q<L.length
       ·obtain⟨l,hl⟩:∃l,L[q]?=some l:=⟨_,z9e gK⟩
        obtain⟨a,p⟩:=l;have fK:a<c.nodes.length:=qM (a,p) (c11 hl);obtain⟨y,hy⟩:∃y,c.nodes[a]?=some y:=⟨_,z9e fK⟩
        have c2:(q:Int)<L.length:=by omega
        have k14:=h.kind y (c11 hy);have bZ:=λH=>a91 (d:=false) H y.kind (by omega);have ht:=a1b hl;have nq:(L.map a4x)[q]?=some [.int .i64 a,.int .i64 p]:=by rw[f1l,hl];rfl
        by_cases bv:a1r y.kind=true
        ·have kn:a1r (a0u c.nodes a)=true:=by rw[a0x hy];exact bv
         have g8:Pc.cnt (L.take q++[(a,p)]) a<=b7c c.nodes ready done a:=by refine g0n ?_ (d18 hK.nd hx);rw[<-kJ a fK,<-ht];unfold Pc.cnt;exact List.Sublist.count_le _ ((List.take_sublist _ _).map _)
         have jp:=hK.pos fK kn g8;have gQ:a∉ready:=λhm=>by have:=(hK.zero a fK).1 hm;omega
         have jx:=hK.dec fK kn g8;rw[<-ht]at jx;obtain⟨va,gv⟩:∃v,out[a]?=some v:=⟨_,z9e (by omega)⟩
         obtain⟨vx,ij⟩:∃v,out[x]?=some v:=⟨_,z9e (by omega)⟩
         obtain⟨w,hw⟩:∃v,left[a]?=some v:=⟨_,z9e (by omega)⟩
         have oX:left.getD a 0=w:=by rw[List.getD,hw];rfl
         rw[oX]at jp jx;have bx:=ek vx (c11 ij);have ba:=ek va (c11 gv);have lq:=wI1 (n:=vx) (by omega);have eO:IntKind.i64.wrap ((w:Int)-1)=((w-1:Nat):Int):=by
          have iy:w<=100000:=by have h1:=hK.eq a fK kn;rw[oX]at h1;have h2:b7c c.nodes ready done a<=(a28 c.nodes a).length:=List.length_filter_le _ _;rw[a1s hy]at h2;have h3:=h.insl (c11 hy);omega
          rw[w64 (by omega) (by omega)];omega
         have pz:d50 (.int .i64 va) [.int .i64 ((vx+1:Nat):Int)]=some (.int .i64 ((max va (vx+1):Nat):Int)):=c6v _ _;have o7:(out.map a13).set a [AV.int .i64 ((max va (vx+1):Nat):Int)]=(out.set a (max va (vx+1))).map a13:=by rw[f6y];rfl
         have o8:(left.map a13).set a [AV.int .i64 ((w-1:Nat):Int)]=(left.set a (w-1)).map a13:=by rw[f6y];rfl
         have pK:(left.set a (w-1))[a]?=some (w-1):=by rw[f3a];simp;omega
         have bX:(left.set a (w-1)).length=c.nodes.length:=by rw[f4q];exact a7
         have lA:(out.set a (max va (vx+1))).length=c.nodes.length:=by rw[f4q];exact cE
         have ke:∀v∈out.set a (max va (vx+1)),v<=300*done+(q+1):=by
          intro v hv;rcases f8d hv with hv|rfl
          ·have:=ek v hv;omega
          ·omega
         have u5:done<c.nodes.length:=by omega
         have sA:a<left.length:=by omega
         have lm:x<out.length:=by omega
         by_cases hz:w-1=0
         ·rw[f2w hz]at jx;have d8:decide (((w-1:Nat):Int)=0)=true:=f4m (by omega);have eB:ready.length+1<=1000000000:=by omega
          have fY:(ready++[a])[done]?=some x:=by rw[f2l kz];exact hx
          (repeat first|simp only[ww]|apply xa;simp+decide only[go_sem,c2,gK,nq,hy,bZ,bv,dq,fK,gv,ij,hw,cE,a7,lk,lq,eO,pz,o7,o8,pK,bX,lA,d8,eB];rfl;kernel_rfl)
          refine a0y (L.length-(q+1)) (by omega) ⟨_,_,?_,out.set a (max va (vx+1)),left.set a (w-1),ready++[a],q+1,rfl,gK,rfl,rfl,jx,fY,lA,ke,by rw[ht];exact hV.dec hx gQ gv ij (.inr rfl)⟩
          (simp+decide only[go_sem,a01,a00,b9k,c60,a19,a1u]<;>rfl)<;>rfl
         ·rw[f2m hz]at jx;have d8:¬((w-1:Nat):Int)=0:=by omega
          (repeat first|simp only[ww]|apply xa;simp+decide only[go_sem,c2,gK,nq,hy,bZ,bv,dq,fK,gv,ij,hw,cE,a7,lk,lq,eO,pz,o7,o8,pK,bX,lA,d8];rfl;kernel_rfl)
          refine a0y (L.length-(q+1)) (by omega) ⟨_,_,?_,out.set a (max va (vx+1)),left.set a (w-1),ready,q+1,rfl,gK,rfl,rfl,jx,hx,lA,ke,by rw[ht];exact hV.dec hx gQ gv ij (.inl rfl)⟩;rw[a4z 3 bj,a50 1 bj]
          (simp+decide only[go_sem,a01,a00,a19,a1u]<;>rfl)<;>rfl
        ·have bv:a1r y.kind=false:=by simpa using bv
         (repeat first|simp only[ww]|apply xa;simp+decide only[go_sem,c2,gK,nq,hy,bZ,bv,dq,fK];rfl;kernel_rfl)
         refine a0y (L.length-(q+1)) (by omega) ⟨_,_,?_,out,left,ready,q+1,rfl,gK,rfl,rfl,by rw[ht];exact hK.skip (by rw[a0x hy];exact bv),hx,cE,λv hv=>by have:=ek v hv;omega,by rw[ht];exact hV.skip (by rw[a0x hy];exact bv)⟩;rw[a4z 3 bj,a50 1 bj]
         (simp+decide only[go_sem,a01,a00,a19,a1u]<;>rfl)<;>rfl
       ·obtain rfl:q=L.length:=by omega
        have c2:¬(L.length:Int)<L.length:=by omega
        rw[f6p]at hK hV
        (repeat first|simp only[ww]|apply xa;simp+decide only[go_sem,c2];rfl;kernel_rfl)
        refine a0y (c.nodes.length-(done+1)) (by omega) ⟨_,_,?_,out,left,ready,done+1,rfl,rfl,rfl,hK.next hx kJ,cE,λv hv=>by have:=ek v hv;omega,hV.next hx kJ⟩;rw[a4z 3 bj,a50 1 bj]
        (simp+decide only[go_sem,a01,a00,a19,a1u]<;>rfl)<;>rfl
    ·obtain rfl:done=ready.length:=by omega
     have c1:¬(ready.length:Int)<ready.length:=by omega
     have aW:=hK.all h.acyc;have c2:¬(ready.length:Int)<c.nodes.length:=by omega
     (repeat first|simp only[ww]|apply xa;simp+decide only[go_sem,c1,c2];rfl;kernel_rfl)
     refine a44 (vs:=[.slice 1 0 c.nodes.length (some c.nodes.length),.int .i64 0]) (r:=(_,[])) (by simp+decide only[go_sem]) ?_ ⟨out,cE,λv hv=>by have:=ek v hv;omega,hV.all hK aW,rfl⟩;show a22 false 0 (.tuple [.slice 1 0 c.nodes.length (some c.nodes.length),.int .i64 0]) _=_;rw[<-cE];simp+decide only[go_sem,d7c]
theorem b4y(c:Cir)(h:c.wf):∃lv:List Nat,lv.length=c.nodes.length∧(∀v∈lv,v<=100000)∧Rises c.nodes lv∧∀(d:Bool) (H:a03),cl d 84 [.agg c.enc] H=some (.tuple [.islice (lv.map a13) (some c.nodes.length),.int .i64 0],H,[]):=by obtain⟨r,⟨lv,h1,h2,hR,rfl⟩,h3⟩:=d27 c h;exact⟨lv,h1,h2,hR,λd H=>cf (a4t c) h3 rfl⟩
theorem d1p(c:Cir)(h:c.wf):sM 34 [.agg c.enc] []=some (.int .i64 0,[]):=by
 obtain⟨lv,_,_,_,hc⟩:=b4y c h;have hc:=hc false;simp only[Cir.enc]at hc⊢
 (refine sv Tryz.f34 ?_;simp only[Tryz.f34,gS])
 (repeat first|simp only[ww]|apply xa;simp+decide only[go_sem,hc];rfl;kernel_rfl)
 (apply fqb;simp+decide only[go_sem]<;>rfl)
theorem b4p{d:Bool}(H:a03)(c:Cir)(h:c.wf):cl d 34 [.agg c.enc] H=some (.int .i64 0,H,[]):=cf (a4t c) (d1p c h) rfl
theorem d71(i:Int):sM 147 [.int .i64 i] []=some (.bool false,[]):=by
 (refine sv Tryz.f147 ?_;simp only[Tryz.f147,gS])
 (repeat first|simp only[ww]|apply xa;simp+decide only[go_sem];rfl;kernel_rfl)
 (apply fqb;simp+decide only[go_sem]<;>rfl)
theorem c8i{d:Bool}(H:a03)(i:Int):cl d 147 [.int .i64 i] H=some (.bool false,H,[]):=cf rfl (d71 i) rfl
theorem c93(a b:Nat):sM 104 [.int .i64 a,.int .i64 b] []=some (.int .i64 (d9m a b),[]):=by
 have hn:=λH i=>c8i (d:=false) H i;unfold d9m;by_cases h1:a<b
 ·have c1:(a:Int)<b:=by omega
  rw[f2w h1]
  (refine sv Tryz.f104 ?_;simp only[Tryz.f104,gS])
  (repeat first|simp only[ww]|apply xa;simp+decide only[go_sem,hn,c1];rfl;kernel_rfl)
  (apply fqb;simp+decide only[go_sem]<;>rfl)
 have c1:¬(a:Int)<b:=by omega
 rw[f2m h1];by_cases h2:b<a
 ·have c2:(b:Int)<a:=by omega
  rw[f2w h2]
  (refine sv Tryz.f104 ?_;simp only[Tryz.f104,gS])
  (repeat first|simp only[ww]|apply xa;simp+decide only[go_sem,hn,c1,c2];rfl;kernel_rfl)
  (apply fqb;simp+decide only[go_sem]<;>rfl)
 ·have c2:¬(b:Int)<a:=by omega
  rw[f2m h2]
  (refine sv Tryz.f104 ?_;simp only[Tryz.f104,gS])
  (repeat first|simp only[ww]|apply xa;simp+decide only[go_sem,hn,c1,c2];rfl;kernel_rfl)
  (apply fqb;simp+decide only[go_sem]<;>rfl)
theorem c2k{d:Bool}(H:a03)(a b:Nat):cl d 104 [.int .i64 a,.int .i64 b] H=some (.int .i64 (d9m a b),H,[]):=cf rfl (c93 a b) rfl
def lvO(lv:List Nat):AObj:=.row 1 [[.islice (lv.map a13) (some lv.length)]]
attribute [go_sem] lvO
theorem a4v(lv:List Nat):FlatR [[AV.islice (lv.map a13) (some lv.length)]]:=FlatR.cons rfl FlatR.nil
theorem d1e(lv:List Nat)(x y vx vy:Nat)(hx:lv[x]?=some vx)(hy:lv[y]?=some vy):sM 103 [.int .i64 x,.int .i64 y,.ptr 0 0 0] [some (lvO lv)]=some (.int .i64 (d9m vx vy),[some (lvO lv)]):=by
 have hc:=λH=>c2k (d:=true) H vx vy;have h1:=(f1i.1 hx).1;have h2:=(f1i.1 hy).1
 (refine sv Tryz.f103 ?_;simp only[Tryz.f103,gS])
 (repeat first|simp only[ww]|apply xa;simp+decide only[go_sem,hc,hx,hy,h1,h2];rfl;kernel_rfl)
 (apply fqb;simp+decide only[go_sem]<;>rfl)
theorem c3w{d:Bool}{H:a03}{b:Nat}(lv:List Nat)(x y vx vy:Nat)(hx:lv[x]?=some vx)(hy:lv[y]?=some vy)(hb:a02 H b=some (lvO lv)):a20 L.env d sM (.func (.func 103) [] [.ptr b 0 0]) [.int .i64 x,.int .i64 y] H=some (.int .i64 (d9m vx vy),H,[b]):=a2g (fs:=[]) (cs:=[.ptr b 0 0]) (ar:=[.int .i64 x,.int .i64 y]) (by kernel_rfl) (by kernel_rfl) rfl hb (a0p (a4v lv)) (FlatO.row (a4v lv)) rfl (au:=[.int .i64 x,.int .i64 y,.ptr 0 0 0]) (by simp[ren,a78]) (d1e lv x y vx vy hx hy) rfl
def b3n:AV:=.func (.func 103) [] [.ptr 1 0 0]
def Srt(lv data:List Nat):Prop:=SortI (λv=>lv.getD v 0) data data.length
def JI0(lv d0:List Nat)(n:Nat)(F:Frm)(H:a03):Prop:=∃(i:Nat) (data:List Nat),n=d0.length-i∧1<=i∧
 F=[(0,.slice 0 0 d0.length (some d0.length)),(1,.int .i64 0),(2,.int .i64 d0.length),(3,b3n),(8,.int .i64 i)]∧H=[some (.row 1 (data.map a13)),some (lvO lv)]∧data.Perm d0∧SortI (λv=>lv.getD v 0) data i
def JI2(lv d0:List Nat)(i:Nat)(n:Nat)(F:Frm)(H:a03):Prop:=∃(j:Nat) (data:List Nat),n=j∧j<d0.length∧
 F=[(0,.slice 0 0 d0.length (some d0.length)),(1,.int .i64 0),(2,.int .i64 d0.length),(3,b3n),(8,.int .i64 i),(9,.int .i64 j)]∧H=[some (.row 1 (data.map a13)),some (lvO lv)]∧data.Perm d0∧j<=i∧SortJ (λv=>lv.getD v 0) data i j
theorem c20(lv d0:List Nat)(hl:d0.length<=1000)(hd:∀v∈d0,v<lv.length):∃r:AV×a03,(∃data:List Nat,data.Perm d0∧Srt lv data∧r=(.tuple [],[some (.row 1 (data.map a13)),some (lvO lv)]))∧
 sM 193 [.slice 0 0 d0.length (some d0.length),.int .i64 0,.int .i64 d0.length,b3n] [some (.row 1 (d0.map a13)),some (lvO lv)]=some r:=by
 unfold b3n
 (refine svE Tryz.f193 ?_;simp only[Tryz.f193,gS])
 (repeat first|simp only[ww]|apply xa;simp+decide only[go_sem];rfl;kernel_rfl)
 refine a3i kp193_0 (JI0 lv d0) (d0.length-1) ?_ ?_
 ·refine⟨_,_,?_,1,d0,rfl,f2q _,rfl,rfl,List.Perm.refl _,SortI.one⟩;unfold b3n
  (simp+decide only[go_sem,a01,a00,a19,a1u]<;>rfl)<;>rfl
 ·rintro n F H ⟨i,data,rfl,qD,rfl,rfl,hp,hS⟩
  unfold b3n;have hw:=wI1 (n:=i) ;by_cases ai:i<d0.length
  ·have c1:(i:Int)<d0.length:=by omega
   have hw:=wI1 (n:=i) (by omega)
   (repeat first|simp only[ww]|apply xa;simp+decide only[go_sem,c1];rfl;kernel_rfl)
   refine a3i kp193_2 (JI2 lv d0 i) i ?_ ?_
   ·refine⟨_,_,?_,i,data,rfl,ai,rfl,rfl,hp,f2q _,hS.start⟩;unfold b3n
    (simp+decide only[go_sem,a01,a00,a19,a1u]<;>rfl)<;>rfl
   ·rintro n F H ⟨j,data,rfl,hj,rfl,rfl,hp,jb,hS⟩
    unfold b3n;have ak:=hp.length_eq;cases n with
    |zero=>
     (repeat first|simp only[ww]|apply xa;simp+decide only[go_sem];rfl;kernel_rfl)
     refine a0y (d0.length-(i+1)) (by omega) ⟨_,_,?_,i+1,data,rfl,by omega,rfl,rfl,hp,hS.stop (.inl rfl)⟩;unfold b3n
     (simp+decide only[go_sem,a01,a00,a19,a1u,hw]<;>rfl)<;>rfl
    |succ j=>
     obtain⟨x,hx⟩:∃x,data[j+1]?=some x:=⟨_,z9e (by omega)⟩
     obtain⟨y,hy⟩:∃y,data[j]?=some y:=⟨_,z9e (by omega)⟩
     obtain⟨vx,ij⟩:∃v,lv[x]?=some v:=⟨_,z9e (hd x (hp.mem_iff.1 (c11 hx)))⟩
     obtain⟨vy,te⟩:∃v,lv[y]?=some v:=⟨_,z9e (hd y (hp.mem_iff.1 (c11 hy)))⟩
     have c0:(0:Int)<((j+1:Nat):Int):=by omega
     have fH:j<d0.length:=by omega
     have qC:j+1<data.length:=by omega
     have tF:j<data.length:=by omega
     have aV:IntKind.i64.wrap (((j+1:Nat):Int)-1)=(j:Int):=by rw[w64 (by omega) (by omega)];omega
     have af:=c3w (d:=true) (H:=[some (.row 1 (data.map a13)),some (lvO lv)]) (b:=1) lv x y vx vy ij te rfl;simp only[lvO]at af;have kx:lv.getD x 0=vx:=by rw[List.getD,ij];rfl
     have ky:lv.getD y 0=vy:=by rw[List.getD,te];rfl
     by_cases dy:d9m vx vy<0
     ·have dX:(((data.map a13).set (j+1) [AV.int .i64 y]).set j [AV.int .i64 x])=((data.set (j+1) y).set j x).map a13:=by rw[f6y,f6y];rfl
      have tJ:((data.map a13).set (j+1) [AV.int .i64 y])[j]?=some [AV.int .i64 y]:=by rw[List.getElem?_set_ne (by omega),f1l,hy];rfl
      (repeat first|simp only[ww]|apply xa;simp+decide only[go_sem,c0,hj,fH,qC,tF,hx,hy,aV,af,dy,ak,f4q,dX,tJ];rfl;kernel_rfl)
      refine a0y j (by omega) ⟨_,_,?_,j,_,rfl,fH,rfl,rfl,(d06 hx hy).trans hp,by omega,hS.swap jb hy hx (by show lv.getD x 0<lv.getD y 0;rw[kx,ky];unfold d9m at dy;split at dy<;>first|assumption|(exfalso;split at dy<;>omega))⟩;unfold b3n
      (simp+decide only[go_sem,a01,a00,a19,a1u,dX]<;>rfl)<;>rfl
     ·(repeat first|simp only[ww]|apply xa;simp+decide only[go_sem,c0,hj,fH,qC,tF,hx,hy,aV,af,dy,ak];rfl;kernel_rfl)
      refine a0y (d0.length-(i+1)) (by omega) ⟨_,_,?_,i+1,data,rfl,by omega,rfl,rfl,hp,hS.stop (.inr ⟨y,x,hy,hx,by show lv.getD y 0<=lv.getD x 0;rw[kx,ky];unfold d9m at dy;split at dy<;>omega⟩)⟩;unfold b3n
      (simp+decide only[go_sem,a01,a00,a19,a1u,hw]<;>rfl)<;>rfl
  ·have c1:¬(i:Int)<d0.length:=by omega
   (repeat first|simp only[ww]|apply xa;simp+decide only[go_sem,c1];rfl;kernel_rfl)
   refine b6h (vs:=[]) (r:=(_,[_,_])) (by simp+decide only[go_sem]) ?_ ⟨data,hp,λp q x y h1 h2=>hS p q x y h1 (by have:=hp.length_eq;omega),rfl⟩;simp+decide only[go_sem,a1u]<;>rfl
def d5o(b:Nat):AV:=.func (.func 103) [] [.ptr b 0 0]
theorem a3z(l:List Nat):FlatR (l.map a13):=FlatR.map λ_=>rfl
theorem b6e(lv d0:List Nat)(hl:d0.length<=1000)(hd:∀v∈d0,v<lv.length):∃data:List Nat,data.Perm d0∧Srt lv data∧
 cl false 193 [.slice 0 0 d0.length (some d0.length),.int .i64 0,.int .i64 d0.length,b3n] [some (.row 1 (d0.map a13)),some (lvO lv)]=some (.tuple [],[some (.row 1 (data.map a13)),some (lvO lv)],[0,1]):=by
 obtain⟨r,⟨data,hp,hS,rfl⟩,h⟩:=c20 lv d0 hl hd;refine⟨data,hp,hS,?_⟩;exact b5v (a:=0) (b:=1) (fs:=[]) (cs:=[]) (ar:=[.slice 0 0 d0.length (some d0.length),.int .i64 0,.int .i64 d0.length,b3n]) (H:=[some (.row 1 (d0.map a13)),some (lvO lv)]) (by kernel_rfl) (by kernel_rfl) rfl (by decide) rfl rfl (a0p (a3z d0)) (a0p (a4v lv)) (FlatO.row (a3z d0)) (FlatO.row (a4v lv)) rfl rfl h (FlatO.row (a3z data)) (FlatO.row (a4v lv)) rfl
theorem d0l(lv d0:List Nat)(hl:d0.length<=19)(hd:∀v∈d0,v<lv.length):∃r:AV×a03,(∃data:List Nat,data.Perm d0∧Srt lv data∧r=(.tuple [],[some (.row 1 (data.map a13)),some (lvO lv)]))∧
 sM 146 [.slice 0 0 d0.length (some d0.length),.int .i64 d0.length,b3n] [some (.row 1 (d0.map a13)),some (lvO lv)]=some r:=by
 obtain⟨data,hp,hS,hc⟩:=b6e lv d0 (by omega) hd;have c1:¬(20:Int)<=d0.length:=by omega
 have c2:¬(20:Int)<d0.length:=by omega
 unfold b3n at hc⊢;simp only[lvO]at hc⊢
 (refine svE Tryz.f146 ?_;simp only[Tryz.f146,gS])
 (repeat first|simp only[ww]|apply xa;simp+decide only[go_sem,c1];rfl;kernel_rfl)
 refine a0m (σ:=Nat) kp146_0 (λi=>[(0,.slice 0 0 d0.length (some d0.length)),(1,.int .i64 d0.length),(2,b3n),(6,.int .i64 20),(7,.int .i64 0),(8,.int .i64 20)])
  (λi=>[some (.row 1 (d0.map a13)),some (.row 1 [[.islice (lv.map a13) (some lv.length)]])]) (λi=>0) (λi=>True) 0 ?_ trivial ?_
 ·unfold b3n
  (simp+decide only[go_sem,a01,a00,a19,a1u]<;>rfl)<;>rfl
 ·intro i _;unfold b3n
  (repeat first|simp only[ww]|apply xa;simp+decide only[go_sem,c1,hc];rfl;kernel_rfl)
  refine a0m (σ:=Nat) kp146_2 (λi=>[(0,.slice 0 0 d0.length (some d0.length)),(1,.int .i64 d0.length),(2,b3n),(6,.int .i64 20)])
   (λi=>[some (.row 1 (data.map a13)),some (.row 1 [[.islice (lv.map a13) (some lv.length)]])]) (λi=>0) (λi=>True) 0 ?_ trivial ?_
  ·unfold b3n
   (simp+decide only[go_sem,a01,a00,a19,a1u]<;>rfl)<;>rfl
  ·intro i _;unfold b3n
   (repeat first|simp only[ww]|apply xa;simp+decide only[go_sem,c2];rfl;kernel_rfl)
   refine b6h (vs:=[]) (r:=(_,[_,_])) (by simp+decide only[go_sem]) ?_ ⟨data,hp,hS,rfl⟩;simp+decide only[go_sem,a1u]<;>rfl
theorem b8o(lv d0:List Nat)(hl:d0.length<=19)(hd:∀v∈d0,v<lv.length):∃r:AV×a03,(∃data:List Nat,data.Perm d0∧Srt lv data∧r=(.tuple [],[some (.row 1 (data.map a13)),some (lvO lv)]))∧
 sM 102 [.slice 0 0 d0.length (some d0.length),b3n] [some (.row 1 (d0.map a13)),some (lvO lv)]=some r:=by
 obtain⟨r,⟨data,hp,hS,rfl⟩,h⟩:=d0l lv d0 hl hd;have hc:=b5v (E:=L.env) (ah:=false) (call:=sM) (g:=146) (a:=0) (b:=1) (fs:=[]) (cs:=[]) (ar:=[.slice 0 0 d0.length (some d0.length),.int .i64 d0.length,b3n]) (H:=[some (.row 1 (d0.map a13)),some (lvO lv)]) (v':=.tuple []) (by kernel_rfl) (by kernel_rfl) rfl (by decide) rfl rfl (a0p (a3z d0)) (a0p (a4v lv)) (FlatO.row (a3z d0)) (FlatO.row (a4v lv)) rfl rfl h (FlatO.row (a3z data)) (FlatO.row (a4v lv)) rfl;unfold b3n at hc⊢;simp only[lvO]at hc⊢
 (refine svE Tryz.f102 ?_;simp only[Tryz.f102,gS])
 (repeat first|simp only[ww]|apply xa;simp+decide only[go_sem,hc];rfl;kernel_rfl)
 refine b6h (vs:=[]) (r:=(_,[_,_])) (by simp+decide only[go_sem]) ?_ ⟨data,hp,hS,rfl⟩;simp+decide only[go_sem,a1u]<;>rfl
theorem b3x(lv d0:List Nat)(hl:d0.length<=19)(hd:∀v∈d0,v<lv.length):∃data:List Nat,data.Perm d0∧Srt lv data∧∀(d:Bool) (H:a03) (a b:Nat),a≠b->a02 H a=some (.row 1 (d0.map a13))->a02 H b=some (lvO lv)->
 cl d 102 [.slice a 0 d0.length (some d0.length),d5o b] H=some (.tuple [],(H.set a (some (.row 1 (data.map a13)))).set b (some (lvO lv)),[a,b]):=by
 obtain⟨r,⟨data,hp,hS,rfl⟩,h⟩:=b8o lv d0 hl hd;refine⟨data,hp,hS,λd H a b cP ha hb=>?_⟩;exact b5v (a:=a) (b:=b) (fs:=[]) (cs:=[]) (ar:=[.slice a 0 d0.length (some d0.length),d5o b]) (H:=H) (by kernel_rfl) (by kernel_rfl) rfl cP ha hb (a0p (a3z d0)) (a0p (a4v lv)) (FlatO.row (a3z d0)) (FlatO.row (a4v lv)) rfl
  (by simp only[f1e,f1b,f1a,f1g,c3q,d5o,d60,d0z cP];rfl) h (FlatO.row (a3z data)) (FlatO.row (a4v lv)) rfl
theorem d6b(c:Cir)(h:c.wf):∃r:AV×a03,(∃ord:List Nat,ord.Perm (List.range c.nodes.length)∧e80 c.nodes ord∧r=(.tuple [.islice (ord.map a13) (some c.nodes.length),.int .i64 0],[]))∧sM 58 [.agg c.enc] []=some r:=by
 have hn:=h.len;obtain⟨lv,jC,vQ,hR,hc⟩:=b4y c h;have hc:=hc false;have aD:c.nodes.length<=1000000000:=by omega
 obtain⟨data,hp,hS,hs⟩:=b3x lv (List.range c.nodes.length) (by simp;omega) (λv hv=>by rw[jC];simpa using hv);have jK:data.length=c.nodes.length:=by rw[hp.length_eq];simp
 rw[f3b]at hs;simp only[Cir.enc]at hc⊢
 (refine svE Tryz.f58 ?_;simp only[Tryz.f58,gS])
 (repeat first|simp only[ww]|apply xa;simp+decide only[go_sem,hc,aD];rfl;kernel_rfl)
 refine a0m (σ:=Nat) kp58_0 (λi=>[(4,.ptr 0 0 0),(6,.slice 1 0 c.nodes.length (some c.nodes.length)),(21,.int .i64 c.nodes.length),(22,.int .i64 i)])
  (λi=>[some (lvO lv),some (.row 1 ((List.range i++List.replicate (c.nodes.length-i) 0).map a13))]) (λi=>c.nodes.length-i) (λi=>i<=c.nodes.length) 0 ?_ (f2i _) ?_
 ·rw[lvO,jC]
  (simp+decide only[go_sem,a01,a00,f0w,a19,a1u,List.range_zero,f1e,Nat.sub_zero]<;>rfl)<;>rfl
 ·intro i hi;rw[lvO];by_cases ai:i<c.nodes.length
  ·have c1:(i:Int)<c.nodes.length:=by omega
   have hw:=wI1 (n:=i) (by omega);have dO:(List.range i++List.replicate (c.nodes.length-i) 0).length=c.nodes.length:=by simp;omega
   have hg:(List.range i++List.replicate (c.nodes.length-i) 0)[i]?=some 0:=by rw[f2r (by simp),f3b,Nat.sub_self,f4w,f2w (by omega)]
   have az:((List.range i++List.replicate (c.nodes.length-i) 0).map a13).set i [AV.int .i64 i]=(List.range (i+1)++List.replicate (c.nodes.length-(i+1)) 0).map a13:=by
    have e:c.nodes.length-i=(c.nodes.length-(i+1))+1:=by omega
    rw[e,f8i];rw[show [AV.int IntKind.i64 (i:Int)]=a13 i from rfl,<-f6y,List.set_append_right _ _ (by simp),f8o,e12];simp
   generalize hA:(List.range i++List.replicate (c.nodes.length-i) 0)=A at dO hg az
   (repeat first|simp only[ww]|apply xa;simp+decide only[go_sem,c1,ai,hw,dO,hg,az];rfl;kernel_rfl)
   refine a1m (i+1) ?_ (by omega) (by omega)
   (simp+decide only[go_sem,a01,a00,a19,a1u]<;>rfl)<;>rfl
  ·obtain rfl:i=c.nodes.length:=by omega
   have c1:¬(c.nodes.length:Int)<c.nodes.length:=by omega
   rw[Nat.sub_self,List.replicate_zero,f1b];have ej:=hs false [some (lvO lv),some (.row 1 ((List.range c.nodes.length).map a13))] 1 0 (by decide) rfl rfl;simp only[lvO,d5o]at ej
   (repeat first|simp only[ww]|apply xa;simp+decide only[go_sem,c1,ej];rfl;kernel_rfl)
   refine a44 (vs:=[.slice 1 0 c.nodes.length (some c.nodes.length),.int .i64 0]) (r:=(_,[])) (by simp+decide only[go_sem]) ?_ ⟨data,hp,hR.topo hp hS.pairwise h.inAt,rfl⟩;show a22 false 0 (.tuple [.slice 1 0 c.nodes.length (some c.nodes.length),.int .i64 0]) _=_;rw[<-jK];simp+decide only[go_sem,d7c]
theorem c80(c:Cir)(h:c.wf):∃ord:List Nat,ord.Perm (List.range c.nodes.length)∧e80 c.nodes ord∧∀(d:Bool) (H:a03),cl d 58 [.agg c.enc] H=some (.tuple [.islice (ord.map a13) (some c.nodes.length),.int .i64 0],H,[]):=by obtain⟨r,⟨ord,h1,h2,rfl⟩,h3⟩:=d6b c h;exact⟨ord,h1,h2,λd H=>cf (a4t c) h3 rfl⟩
theorem d32(c:Cir)(h:c.wf):sM 52 [.agg c.enc] []=some (.int .i64 0,[]):=by
 have hc:=λH=>b4p (d:=false) H c h;simp only[Cir.enc]at hc⊢
 (refine sv Tryz.f52 ?_;simp only[Tryz.f52,gS])
 (repeat first|simp only[ww]|apply xa;simp+decide only[go_sem,hc];rfl;kernel_rfl)
 (apply fqb;simp+decide only[go_sem]<;>rfl)
theorem b0f{d:Bool}(H:a03)(c:Cir)(h:c.wf):cl d 52 [.agg c.enc] H=some (.int .i64 0,H,[]):=cf (a4t c) (d32 c h) rfl
theorem d7f(c:Cir)(h:c.wf)(n:Nat)(p:Int)(hn:n<c.nodes.length)(hp:-1<=p)(cB:p<(a28 c.nodes n).length):sM 53 [.agg c.enc,.agg [.int .i64 n,.int .i64 p]] []=some (.bool true,[]):=by
 obtain⟨x,hx⟩:∃x,c.nodes[n]?=some x:=⟨_,z9e hn⟩
 rw[a1s hx]at cB;have c1:0<=(n:Int):=by omega
 have c2:(n:Int)<c.nodes.length:=by omega
 simp only[Cir.enc]
 (refine sv Tryz.f53 ?_;simp only[Tryz.f53,gS])
 (repeat first|simp only[ww]|apply xa;simp+decide only[go_sem,c1,c2,hn,hp,cB,hx];rfl;kernel_rfl)
 (apply fqb;simp+decide only[go_sem]<;>rfl)
theorem b7y{d:Bool}(H:a03)(c:Cir)(h:c.wf)(n:Nat)(p:Int)(hn:n<c.nodes.length)(hp:-1<=p)(cB:p<(a28 c.nodes n).length):cl d 53 [.agg c.enc,.agg [.int .i64 n,.int .i64 p]] H=some (.bool true,H,[]):=cf (by simp only[a04,a0n,Cir.enc,go_sem]) (d7f c h n p hn hp cB) rfl
/- dependence, by the statements -/
def a8f(b:Bool):List AV:=[.bool b]
attribute [go_sem] a8f
theorem a55(l:List Bool):(l.map a8f).flatMap a0d=[]:=a06 (FlatR.map λ_=>rfl)
theorem a8b(π:Nat->Option Nat)(l:List Bool):(l.map a8f).map (λr=>r.map (ren π))=l.map a8f:=a05 π (FlatR.map λ_=>rfl)
theorem e72{m:Nat}{d:AV->Option AV}(l:List Bool):a9t m d (l.map a8f)=some (l.map a8f):=a0z m d (FlatR.map λ_=>rfl)
theorem b18{l:List Bool}{m:Nat}(h:l[m]?=some false):(l.set m true).count false+1=l.count false:=by
 induction l generalizing m with
 |nil=>simp at h
 |cons a l ih=>
  cases m with
  |zero=>simp only[f4z,Option.some.injEq]at h;subst h;simp
  |succ m=>simp only[f4r]at h;simp only[List.set_cons_succ,List.count_cons];have:=ih h;omega
structure Cone(c:Cir)(a:Nat)(inn:List Bool)(T:List Nat)(J:List (List AV))(cap:Option Nat):Prop where
 len:inn.length=c.nodes.length
 mark:∀b:Nat,inn[b]?=some true->DepOn c.nodes a b
 todo:∀t∈T,t<c.nodes.length∧DepOn c.nodes a t
 flat:FlatR J
 cap:cap=none∨(cap=some 1∧T.length+J.length=1)
def cnH(c:Cir)(inn:List Bool)(T:List Nat)(J:List (List AV)):a03:=[some (.row 4 [ce c]),some (.row 1 (inn.map a8f)),some (.row 1 (T.map a13++J))]
def JC0(c:Cir)(a:Nat)(n:Nat)(F:Frm)(H:a03):Prop:=∃inn T J cap,n=inn.count false+T.length∧n<=c.nodes.length∧F=[(2,.ptr 0 0 0),(5,.slice 1 0 c.nodes.length (some c.nodes.length)),(6,.slice 2 0 T.length cap)]∧H=cnH c inn T J∧Cone c a inn T J cap
def JC2(c:Cir)(a:Nat)(x:Nd)(N n:Nat)(F:Frm)(H:a03):Prop:=∃inn T J cap k,n=x.ins.length-k∧k<=x.ins.length∧inn.count false+T.length<N∧N<=c.nodes.length∧F=[(2,.ptr 0 0 0),(5,.slice 1 0 c.nodes.length (some c.nodes.length)),(6,.slice 2 0 T.length cap),(45,sl x.c (x.ins.map a13)),(46,.int .i64 x.ins.length),(47,.int .i64 k)]∧H=cnH c inn T J∧Cone c a inn T J cap
theorem e5p(n:Nat):List.replicate n [AV.bool false]=(List.replicate n false).map a8f:=by rw[f8y];rfl
theorem e2l(c:Cir)(h:c.wf)(a:Nat)(ha:a<c.nodes.length):∃r:AV×a03,(∃l:List Bool,l.length=c.nodes.length∧(∀b:Nat,l[b]?=some true->DepOn c.nodes a b)∧r=(.islice (l.map a8f) (some c.nodes.length),[]))∧sM 100 [.agg c.enc,.int .i64 a] []=some r:=by
 have hn:=h.len;have aD:c.nodes.length<=1000000000:=by omega
 have az:(List.replicate c.nodes.length [AV.bool false]).set a [AV.bool true]=((List.replicate c.nodes.length false).set a true).map a8f:=by rw[e5p,f6y];rfl
 have jE:(List.replicate c.nodes.length [AV.bool false])[a]?=some [AV.bool false]:=by rw[f4w,f2w ha]
 have rR:(List.replicate c.nodes.length false)[a]?=some false:=by rw[f4w,f2w ha]
 have iS:((List.replicate c.nodes.length false).set a true).count false+1<=c.nodes.length:=by rw[b18 rR];exact g0n List.count_le_length (by simp)
 simp only[Cir.enc]
 (refine svE Tryz.f100 ?_;simp only[Tryz.f100,gS])
 (repeat first|simp only[ww]|apply xa;simp+decide only[go_sem,aD,ha,jE];rfl;kernel_rfl)
 refine a3i kp100_0 (JC0 c a) (((List.replicate c.nodes.length false).set a true).count false+1) ?_ ?_
 ·refine⟨_,_,?_,(List.replicate c.nodes.length false).set a true,[a],[],some 1,rfl,iS,rfl,rfl,⟨by simp,?_,?_,FlatR.nil,.inr ⟨rfl,rfl⟩⟩⟩
  ·rw[cnH]
   (simp+decide only[go_sem,a01,a00,a55,a8b,az]<;>rfl)<;>rfl
  ·intro b hb;rw[f3a]at hb;by_cases cP:a=b
   ·subst cP;exact .refl _
   ·rw[f2m cP,f4w]at hb;split at hb<;>cases hb
  ·intro t ht;simp only[f2x]at ht;subst ht;exact⟨ha,.refl _⟩
 ·rintro N F H ⟨inn,T,J,cap,rfl,hB,rfl,rfl,hC⟩
  rw[cnH];rcases List.eq_nil_or_concat T with rfl|⟨T,t,rfl⟩
  · -- nothing is left
   (repeat first|simp only[ww]|apply xa;simp+decide only[go_sem];rfl;kernel_rfl)
   refine a44 (vs:=[.slice 1 0 c.nodes.length (some c.nodes.length)]) (r:=(_,[])) (by simp+decide only[go_sem]) ?_ ⟨inn,hC.len,hC.mark,rfl⟩;show a22 false 0 (.slice 1 0 c.nodes.length (some c.nodes.length)) _=_;rw[<-hC.len];simp+decide only[go_sem,e72]
  ·simp only[List.concat_eq_append]at hB hC⊢;obtain⟨lw,gw⟩:=hC.todo t (by simp);obtain⟨x,hx⟩:∃x,c.nodes[t]?=some x:=⟨_,z9e lw⟩
   have ak:(T++[t]).length=T.length+1:=by simp
   rw[ak]at hB;have c1:(0:Int)<((T.length+1:Nat):Int):=by omega
   have ib:T.length+1<=c.nodes.length:=by omega
   have aV:IntKind.i64.wrap (((T.length+1:Nat):Int)-1)=(T.length:Int):=by rw[w64 (by omega) (by omega)];omega
   have gd:(T++[t]).map a13++J=T.map a13++(a13 t::J):=by simp
   have aM:(T.map a13++(a13 t::J))[T.length]?=some (a13 t):=by rw[f2r (by simp)];simp
   have bf:T.length<=T.length+1:=by omega
   have go:Cone c a inn T (a13 t::J) cap:=⟨hC.len,hC.mark,λs hs=>hC.todo s (by simp[hs]),FlatR.cons rfl hC.flat,hC.cap.imp id (λ⟨e1,e2⟩=>⟨e1,by rw[ak]at e2;simp;omega⟩)⟩
   have iQ:=a06 go.flat;have iG:=λπ=>a05 π go.flat;rw[gd,ak];generalize hJ':a13 t::J=J' at aM go iQ iG;have ep:=c11 hx;have bQ:=h.insl ep;have cM:a1j (T.length+1) cap=T.length+1∨a1j (T.length+1) cap=1:=by
    rcases hC.cap with e|⟨e,_⟩<;>rw[e]
    ·exact .inl rfl
    ·exact .inr rfl
   have iL:T.length<=a1j (T.length+1) cap:=by
    rcases hC.cap with e|⟨e,e2⟩
    ·rw[e];show T.length<=T.length+1;omega
    ·rw[e];show T.length<=1;rw[ak]at e2;omega
   by_cases h14:x.kind=14
   ·have c3:decide ((x.kind:Int)=14)=true:=f4m (by omega)
    (repeat first|simp only[ww]|apply xa;simp+decide only[go_sem,c1,aV,aM,hx,lw,c3,iL,bf,a43];rfl;kernel_rfl)
    refine a0y (inn.count false+T.length) (by omega) ⟨_,_,?_,inn,T,J',cap,rfl,by omega,rfl,rfl,go⟩;rw[cnH]
    (simp+decide only[go_sem,a01,a00,a55,a8b,a19,a1u,iQ,iG]<;>rfl)<;>rfl
   have c3:¬(x.kind:Int)=14:=by omega
   (repeat first|simp only[ww]|apply xa;simp+decide only[go_sem,c1,aV,aM,hx,lw,c3,iL,bf,a43];rfl;kernel_rfl)
   refine a3i kp100_2 (JC2 c a x (inn.count false+(T.length+1))) (x.ins.length-0) ?_ ?_
   ·refine⟨_,_,?_,inn,T,J',cap,0,rfl,f2i _,by omega,hB,rfl,rfl,go⟩;rw[cnH]
    (simp+decide only[go_sem,a01,a00,a55,a8b,a19,a1u,iQ,iG]<;>rfl)<;>rfl
   ·generalize inn.count false+(T.length+1)=N at hB⊢;clear go iQ iG aM cM iL hC gd aV c1 bf ib ak hJ';clear J' inn cap J
    rintro n F H ⟨inn,T,J,cap,k,rfl,hk,hN,kG,rfl,rfl,hC⟩
    rw[cnH];have iQ:=a06 hC.flat;have iG:=λπ=>a05 π hC.flat;by_cases bH:k<x.ins.length
    ·obtain⟨m,hm⟩:∃m,x.ins[k]?=some m:=⟨_,z9e bH⟩
     have bW:=h.ins x ep m (c11 hm);have c2:(k:Int)<x.ins.length:=by omega
     have hw:=wI1 (n:=k) (by omega);obtain⟨q,hq⟩:∃q,inn[m]?=some q:=⟨_,z9e (by rw[hC.len];exact bW)⟩
     have ft:=hC.len;have dl:DepOn c.nodes a m:=gw.snoc (by rw[a0x hx];exact h14) (by rw[a1s hx];exact c11 hm);cases q with
     |true=>
      (repeat first|simp only[ww]|apply xa;simp+decide only[go_sem,c2,bH,hm,hw,bW,hq,ft];rfl;kernel_rfl)
      refine a0y (x.ins.length-(k+1)) (by omega) ⟨_,_,?_,inn,T,J,cap,k+1,rfl,bH,hN,kG,rfl,rfl,hC⟩;rw[cnH]
      (simp+decide only[go_sem,a01,a00,a55,a8b,a19,a1u,iQ,iG]<;>rfl)<;>rfl
     |false=>
      have az:(inn.map a8f).set m [AV.bool true]=(inn.set m true).map a8f:=by rw[f6y];rfl
      have cL:=b18 hq;have lT:T.length+1<=1000000000:=by omega
      have lY:∀J' gq,FlatR J'->(gq=none∨(gq=some 1∧(T++[m]).length+J'.length=1))->Cone c a (inn.set m true) (T++[m]) J' gq:=by
       intro J' gq hf aY;refine⟨by rw[f4q];exact hC.len,?_,?_,hf,aY⟩
       ·intro b hb;rw[f3a]at hb;by_cases ni:m=b
        ·subst ni;exact dl
        ·rw[f2m ni]at hb;exact hC.mark b hb
       ·intro s hs;simp only[f4s,f2x]at hs;rcases hs with hs|rfl
        ·exact hC.todo s hs
        ·exact⟨bW,dl⟩
      have lV:(inn.set m true).count false+(T++[m]).length<N:=by simp;omega
      rcases hC.cap with rfl|⟨rfl,h1⟩
      ·cases J with
       |nil=>
        (repeat first|simp only[ww]|apply xa;simp+decide only[go_sem,c2,bH,hm,hw,bW,hq,ft,az,lT,f1b];rfl;kernel_rfl)
        refine a0y (x.ins.length-(k+1)) (by omega) ⟨_,_,?_,inn.set m true,T++[m],[],none,k+1,rfl,bH,lV,kG,rfl,rfl,lY [] none FlatR.nil (.inl rfl)⟩;rw[cnH]
        (simp+decide only[go_sem,a01,a00,a55,a8b,a19,a1u,az,f1b]<;>rfl)<;>rfl
       |cons j js=>
        have aw:¬(T.length=T.length+(js.length+1)):=by omega
        have bY:T.length<=T.length+(js.length+1):=by omega
        have dF:(T.map a13++(j::js)).take T.length=T.map a13:=by rw[List.take_append_of_le_length (by simp)];exact b2f a13 T
        (repeat first|simp only[ww]|apply xa;simp+decide only[go_sem,c2,bH,hm,hw,bW,hq,ft,az,lT,aw,bY,dF,f1c];rfl;kernel_rfl)
        refine a0y (x.ins.length-(k+1)) (by omega) ⟨_,_,?_,inn.set m true,T++[m],[],none,k+1,rfl,bH,lV,kG,rfl,rfl,lY [] none FlatR.nil (.inl rfl)⟩;rw[cnH]
        (simp+decide only[go_sem,a01,a00,a55,a8b,a19,a1u,az,f1b]<;>rfl)<;>rfl
      ·cases T with
       |nil=>
        obtain⟨j,rfl⟩:∃j,J=[j]:=by
         cases J with
         |nil=>simp at h1
         |cons j js=>cases js with
          |nil=>exact⟨j,rfl⟩
          |cons=>simp only[f1c,f1h]at h1;omega
        (repeat first|simp only[ww]|apply xa;simp+decide only[go_sem,c2,bH,hm,hw,bW,hq,ft,az,lT,f1g,f1e,f1h,f1c];rfl;kernel_rfl)
        refine a0y (x.ins.length-(k+1)) (by omega) ⟨_,_,?_,inn.set m true,[m],[],some 1,k+1,rfl,bH,lV,kG,rfl,rfl,lY [] (some 1) FlatR.nil (.inr ⟨rfl,rfl⟩)⟩;rw[cnH]
        (simp+decide only[go_sem,a01,a00,a55,a8b,a19,a1u,az,f1b,f1a,f1g]<;>rfl)<;>rfl
       |cons t0 ts=>
        obtain rfl:ts=[]:=by cases ts with
         |nil=>rfl
         |cons=>simp only[f1c,f1h]at h1;omega
        obtain rfl:J=[]:=by cases J with
         |nil=>rfl
         |cons=>simp only[f1c,f1h]at h1;omega
        (repeat first|simp only[ww]|apply xa;simp+decide only[go_sem,c2,bH,hm,hw,bW,hq,ft,az,lT,f1g,f1e,f1h,f1c,f1a,f1b];rfl;kernel_rfl)
        refine a0y (x.ins.length-(k+1)) (by omega) ⟨_,_,?_,inn.set m true,[t0,m],[],none,k+1,rfl,bH,lV,kG,rfl,rfl,lY [] none FlatR.nil (.inl rfl)⟩;rw[cnH]
        (simp+decide only[go_sem,a01,a00,a55,a8b,a19,a1u,az,f1b,f1a,f1g]<;>rfl)<;>rfl
    ·obtain rfl:k=x.ins.length:=by omega
     have c2:¬(x.ins.length:Int)<x.ins.length:=by omega
     (repeat first|simp only[ww]|apply xa;simp+decide only[go_sem,c2];rfl;kernel_rfl)
     refine a0y (inn.count false+T.length) hN ⟨_,_,?_,inn,T,J,cap,rfl,by omega,rfl,rfl,hC⟩;rw[cnH]
     (simp+decide only[go_sem,a01,a00,a55,a8b,a19,a1u,iQ,iG]<;>rfl)<;>rfl
set_option maxHeartbeats 200000000
attribute [go_sem] Flt.enc
theorem c2i(c:Cir)(h:c.wf)(a:Nat)(ha:a<c.nodes.length):∃l:List Bool,l.length=c.nodes.length∧(∀b:Nat,l[b]?=some true->DepOn c.nodes a b)∧∀(d:Bool) (H:a03),cl d 100 [.agg c.enc,.int .i64 a] H=some (.islice (l.map a8f) (some c.nodes.length),H,[]):=by obtain⟨r,⟨l,h1,h2,rfl⟩,h3⟩:=e2l c h a ha;exact⟨l,h1,h2,λd H=>cf (by simp only[a04,a0n,Cir.enc,go_sem]) h3 rfl⟩
theorem c25{l:List Bool}{b n:Nat}(hl:l.length=n)(hb:b<n){P:Prop}(h:l[b]?=some true->P)(hP:¬P):l[b]?=some false:=by
 obtain⟨q,hq⟩:∃q,l[b]?=some q:=⟨_,z9e (by omega)⟩
 cases q with
 |false=>exact hq
 |true=>exact absurd (h hq) hP
theorem d3y(c:Cir)(h:c.wf)(f:Flt)(hf:FltOk c.nodes f)(hm:f.model≠0):sM 54 [.agg c.enc,.agg f.enc] []=some (.int .i64 0,[]):=by
 obtain⟨b1,b2,b3,b4,b5,b6,b7,b8⟩:=hf.bridge hm;obtain⟨x,hx⟩:∃x,c.nodes[f.node]?=some x:=⟨_,z9e hf.node⟩
 obtain⟨y,hy⟩:∃y,c.nodes[f.other]?=some y:=⟨_,z9e hf.other⟩
 rw[a0x hx]at b5;rw[a0x hy]at b6;obtain⟨l1,s8,qZ,dc⟩:=c2i c h f.node hf.node;obtain⟨l2,sZ,qY,eg⟩:=c2i c h f.other hf.other;have g1:=c25 s8 hf.other (qZ f.other) b7;have g2:=c25 sZ hf.node (qY f.node) b8;have dc:=dc false;have eg:=eg false;have c0:¬(f.other:Int)<0:=by omega
 have c1:¬(c.nodes.length:Int)<=f.other:=by have:=hf.other;omega
 have c2:¬(f.node:Int)=f.other:=by omega
 have c3:¬(x.kind:Int)=12:=by omega
 have c4:¬(y.kind:Int)=12:=by omega
 have cC:=hf.node;have jv:=hf.other;have gy:f.model=2∨f.model=3:=by rcases hf.model with e|e|e;exact absurd e hm;exact .inl e;exact .inr e
 simp only[Cir.enc]at dc eg;simp only[Cir.enc,Flt.enc];rw[b1];rcases gy with e|e
 ·have c5:¬(f.other:Int)<f.node:=by have:=b3 e;omega
  rw[e]
  (refine sv Tryz.f54 ?_;simp only[Tryz.f54,gS])
  (repeat first|simp only[ww]|apply xa;simp+decide only[go_sem,c0,c1,c2,c3,c4,c5,hx,hy,dc,eg,g1,g2,cC,jv];rfl;kernel_rfl)
  (apply fqb;simp+decide only[go_sem]<;>rfl)
 ·have hv:=b4 e;rw[e,hv]
  (refine sv Tryz.f54 ?_;simp only[Tryz.f54,gS])
  (repeat first|simp only[ww]|apply xa;simp+decide only[go_sem,c0,c1,c2,c3,c4,hx,hy,dc,eg,g1,g2,cC,jv];rfl;kernel_rfl)
  (apply fqb;simp+decide only[go_sem]<;>rfl)
theorem d3b(c:Cir)(h:c.wf)(f:Flt)(hf:FltOk c.nodes f):sM 21 [.agg c.enc,.agg f.enc] []=some (.int .i64 0,[]):=by
 have hv:=λH=>b0f (d:=false) H c h;have hl:=λH=>b7y (d:=false) H c h f.node f.pin hf.node hf.pin.1 hf.pin.2;have cD:=hf.value;have c2:¬(1:Int)<f.value:=by omega
 by_cases hm:f.model=0
 ·have ho:=hf.stuck hm;simp only[Cir.enc]at hv hl;simp only[Cir.enc,Flt.enc,hm,ho]
  (refine sv Tryz.f21 ?_;simp only[Tryz.f21,gS])
  (repeat first|simp only[ww]|apply xa;simp+decide only[go_sem,hv,hl,c2];rfl;kernel_rfl)
  (apply fqb;simp+decide only[go_sem]<;>rfl)
 ·have hb:=λH=>a0v (E:=L.env) (ah:=false) (call:=sM) (g:=54) (fs:=[]) (cs:=[]) (ar:=[.agg c.enc,.agg f.enc]) (H:=H) (by kernel_rfl) (by kernel_rfl) rfl (by simp only[f1e,f1b,a04,a0n,Cir.enc,go_sem]) (d3y c h f hf hm) rfl;have gy:f.model=2∨f.model=3:=by rcases hf.model with e|e|e;exact absurd e hm;exact .inl e;exact .inr e
  have c1:¬(3:Int)<f.model:=by omega
  have c3:(2:Int)<=f.model:=by omega
  simp only[Cir.enc]at hv hl;simp only[Cir.enc,Flt.enc]at hb⊢
  (refine sv Tryz.f21 ?_;simp only[Tryz.f21,gS])
  (repeat first|simp only[ww]|apply xa;simp+decide only[go_sem,hv,hl,c1,c2,c3,hb];rfl;kernel_rfl)
  (apply fqb;simp+decide only[go_sem]<;>rfl)
theorem b5k{d:Bool}(H:a03)(c:Cir)(h:c.wf)(f:Flt)(hf:FltOk c.nodes f):cl d 21 [.agg c.enc,.agg f.enc] H=some (.int .i64 0,H,[]):=cf (by simp only[a04,a0n,Cir.enc,go_sem]) (d3b c h f hf) rfl
/- the statements' own check of a bridge -/
attribute [go_sem] Pat.enc
structure PatOk(nodes:List Nd)(p:Pat):Prop where
 ins:p.ins.length=(kinds nodes 0).length
 sts:p.sts.length=(kinds nodes 14).length
 inv:∀v∈p.ins,v<=3
 stv:∀v∈p.sts,v<=3
theorem a4d(nodes:List Nd)(k:Nat):(kinds nodes k).length<=nodes.length:=b55 _ _ _
theorem d7n(c:Cir)(h:c.wf)(k:Nat):sM 91 [.agg c.enc,.int .u8 k] []=some (.int .i64 (kinds c.nodes k).length,[]):=by
 have hn:=h.len;simp only[Cir.enc]
 (refine sv Tryz.f91 ?_;simp only[Tryz.f91,gS])
 (repeat first|simp only[ww]|apply xa;simp+decide only[go_sem];rfl;kernel_rfl)
 refine a0m (σ:=Nat) kp91_0 (λi=>[(1,.int .u8 k),(2,.ptr 0 0 0),(5,.int .i64 (a40 c.nodes k i).length),(6,.int .i64 i)])
  (λi=>[some (.row 4 [ce c])]) (λi=>c.nodes.length-i) (λi=>i<=c.nodes.length) 0 ?_ (f2i _) ?_
 ·have e:a40 c.nodes k 0=[]:=rfl
  (simp+decide only[go_sem,a01,a00,e,f1h]<;>rfl)
 ·intro i hi;by_cases ai:i<c.nodes.length
  ·obtain⟨x,hx⟩:∃x,c.nodes[i]?=some x:=⟨_,z9e ai⟩
   have c1:(i:Int)<c.nodes.length:=by omega
   have hw:=wI1 (n:=i) (by omega);have bf:=b55 c.nodes k i;have eO:=wI1 (n:=(a40 c.nodes k i).length) (by omega);have hs:=b54 c.nodes k i;rw[a0x hx]at hs;by_cases hk:x.kind=k
   ·have ck:decide ((x.kind:Int)=k)=true:=f4m (by omega);rw[f2w hk]at hs;have hl:(a40 c.nodes k (i+1)).length=(a40 c.nodes k i).length+1:=by rw[hs];simp
    (repeat first|simp only[ww]|apply xa;simp+decide only[go_sem,c1,ai,hx,hw,eO,ck];rfl;kernel_rfl)
    refine a1m (i+1) ?_ (by omega) (by omega)
    (simp+decide only[go_sem,a01,a00,hl]<;>rfl)
   ·have ck:¬(x.kind:Int)=k:=by omega
    rw[f2m hk]at hs
    (repeat first|simp only[ww]|apply xa;simp+decide only[go_sem,c1,ai,hx,hw,eO,ck];rfl;kernel_rfl)
    refine a1m (i+1) ?_ (by omega) (by omega)
    (simp+decide only[go_sem,a01,a00,hs]<;>rfl)
  ·obtain rfl:i=c.nodes.length:=by omega
   have c1:¬(c.nodes.length:Int)<c.nodes.length:=by omega
   (repeat first|simp only[ww]|apply xa;simp+decide only[go_sem,c1];rfl;kernel_rfl)
   (apply fqb;simp+decide only[go_sem,kinds]<;>rfl)
theorem b84{d:Bool}(H:a03)(c:Cir)(h:c.wf){n:Int}(k:Nat)(hk:n=k):cl d 91 [.agg c.enc,.int .u8 n] H=some (.int .i64 (kinds c.nodes k).length,H,[]):=by subst hk;exact cf (by simp only[a04,a0n,Cir.enc,go_sem]) (d7n c h k) rfl
theorem c69(l:List Nat):(l.map u8R).flatMap a0d=[]:=a06 (FlatR.map λ_=>rfl)
theorem d5y(π:Nat->Option Nat)(l:List Nat):(l.map u8R).map (λr=>r.map (ren π))=l.map u8R:=a05 π (FlatR.map λ_=>rfl)
theorem f2c{m:Nat}{d:AV->Option AV}(l:List Nat):a9t m d (l.map u8R)=some (l.map u8R):=a0z m d (FlatR.map λ_=>rfl)
theorem d5h(r:Rep)(l:List Nat)(hv:∀v∈l,v<256)(hl:l.length<9223372036854775808)(n dL:Nat)(hn:n<=100000)(hm:0<dL)(tB:dL<=4)(kU:3<=dL):∃r':AV×a03,(∃out:List Nat,out.length=n∧(∀v∈out,v<=3)∧r'=(sl none (out.map u8R),[]))∧sM 90 [sl r (l.map u8R),.int .i64 n,.int .u8 dL] []=some r':=by
 (refine svE Tryz.f90 ?_;simp only[Tryz.f90,gS])
 (repeat first|simp only[ww]|apply xa;simp+decide only[go_sem];rfl;kernel_rfl)
 refine a3i kp90_0 (λq F H=>∃out:List Nat,q=n-out.length∧out.length<=n∧(∀v∈out,v<=3)∧F=[(0,sl r (l.map u8R)),(1,.int .i64 n),(2,.int .u8 dL),(7,grV 0 (out.map u8R)),(8,.int .i64 out.length)]∧H=grH 1 (out.map u8R)) (n-0) ?_ ?_
 ·refine⟨_,_,?_,[],rfl,f2i _,by simp,rfl,rfl⟩
  (simp+decide only[go_sem,a01,a00,f1g,a0r,a0s]<;>rfl)<;>rfl
 ·rintro q F H ⟨out,rfl,ho,hov,rfl,rfl⟩
  by_cases ai:out.length<n
  ·have c1:(out.length:Int)<n:=by omega
   have hw:=wI1 (n:=out.length) (by omega);have aD:out.length+1<=1000000000:=by omega
   by_cases bf:l=[]
   ·subst bf;cases out with
    |nil=>
     simp only[f1h]at hw c1
     (repeat first|simp only[ww]|apply xa;simp+decide only[go_sem,c1,hw,f1g,f1h,f1g,a0r,a0s,f1h];rfl;kernel_rfl)
     refine a0y (n-1) (by simp at ai⊢;omega) ⟨_,_,?_,[2],rfl,by simp at ai⊢;omega,by intro u hu;simp only[f2x]at hu;subst hu;omega,rfl,rfl⟩
     (simp+decide only[go_sem,a01,a00,f1a,f1g,a09,a0a,f1h,f1c,c69,d5y]<;>rfl)<;>rfl
    |cons a r2=>
     simp only[f1c]at aD hw c1 ai
     (repeat first|simp only[ww]|apply xa;simp+decide only[go_sem,c1,hw,f1g,f1h,f1a,a09,a0a,aD,f1c];rfl;kernel_rfl)
     refine a0y (n-(r2.length+1+1)) (by simp;omega) ⟨_,_,?_,(a::r2)++[2],by simp,by simp;omega,by intro u hu;rw[f4s]at hu;rcases hu with hu|hu;exact hov u hu;simp only[f2x]at hu;subst hu;omega,rfl,rfl⟩
     (simp+decide only[go_sem,a01,a00,f2o,f1a,f1g,a09,a0a,f1c,c69,d5y]<;>rfl)<;>rfl
   ·have fG:0<l.length:=List.length_pos_iff.2 bf;have cl:¬(l.length:Int)=0:=by omega
    have d5:=Nat.mod_lt out.length fG;obtain⟨u,hu⟩:∃u,l[out.length%l.length]?=some u:=⟨_,z9e d5⟩
    have vN:=hv u (c11 hu);have gy:=Nat.mod_lt u hm;have cm:¬(dL:Int)=0:=by omega
    have w1:=wI (n:=out.length%l.length) (by omega);have w2:=wB (n:=u%dL) (by omega);cases out with
    |nil=>
     simp only[f1h]at d5 hu w1 hw c1
     (repeat first|simp only[ww]|apply xa;simp+decide only[go_sem,c1,hw,cl,d5,hu,cm,w1,w2,f1g,a0r,a0s,f1h];rfl;kernel_rfl)
     refine a0y (n-1) (by simp at ai⊢;omega) ⟨_,_,?_,[u%dL],rfl,by simp at ai⊢;omega,by intro u hu;simp only[f2x]at hu;subst hu;omega,rfl,rfl⟩
     (simp+decide only[go_sem,a01,a00,f1a,f1g,a09,a0a,f1h,f1c,c69,d5y]<;>rfl)<;>rfl
    |cons a r2=>
     simp only[f1c]at aD hw c1 ai d5 hu w1
     (repeat first|simp only[ww]|apply xa;simp+decide only[go_sem,c1,hw,cl,d5,hu,cm,w1,w2,f1a,a09,a0a,aD,f1c];rfl;kernel_rfl)
     refine a0y (n-(r2.length+1+1)) (by simp;omega) ⟨_,_,?_,(a::r2)++[u%dL],by simp,by simp;omega,by intro u hu;rw[f4s]at hu;rcases hu with hu|hu;exact hov u hu;simp only[f2x]at hu;subst hu;omega,rfl,rfl⟩
     (simp+decide only[go_sem,a01,a00,f2o,f1a,f1g,a09,a0a,f1c,c69,d5y]<;>rfl)<;>rfl
  ·obtain rfl:n=out.length:=by omega
   have c1:¬(out.length:Int)<out.length:=by omega
   cases out with
   |nil=>
    (repeat first|simp only[ww]|apply xa;simp+decide only[go_sem,c1,f1g,a0r,a0s];rfl;kernel_rfl)
    refine a44 (vs:=[.nilslice]) (r:=(.nilslice,[])) (by simp+decide only[go_sem]) ?_ ⟨[],rfl,by simp,rfl⟩;simp+decide only[go_sem]
   |cons a r2=>
    simp only[f1c]at c1
    (repeat first|simp only[ww]|apply xa;simp+decide only[go_sem,c1,f1a,a09,a0a,f1c];rfl;kernel_rfl)
    refine a44 (vs:=[.slice 0 0 (r2.length+1) none]) (r:=(sl none ((a::r2).map u8R),[])) (by simp+decide only[go_sem]) ?_ ⟨a::r2,rfl,hov,rfl⟩;show a22 false 0 (.slice 0 0 (r2.length+1) none) _=_;simp+decide only[go_sem,f2c,f1a,a8m]
theorem b6w(r:Rep)(l:List Nat)(hv:∀v∈l,v<256)(hl:l.length<9223372036854775808)(n dL:Nat)(hn:n<=100000)(hm:0<dL)(tB:dL<=4)(kU:3<=dL):∃out:List Nat,out.length=n∧(∀v∈out,v<=3)∧∀(d:Bool) (H:a03) (k:Int),k=dL->cl d 90 [sl r (l.map u8R),.int .i64 n,.int .u8 k] H=some (sl none (out.map u8R),H,[]):=by obtain⟨r',⟨out,h1,h2,rfl⟩,h3⟩:=d5h r l hv hl n dL hn hm tB kU;refine⟨out,h1,h2,λd H k hk=>?_⟩;subst hk;exact cf (by simp only[f1e,f1b,a04,go_sem]) h3 (a16 _ _)
structure PxOk(p:Pat):Prop where
 inv:∀v∈p.ins,v<256
 stv:∀v∈p.sts,v<256
 inl:p.ins.length<9223372036854775808
 stl:p.sts.length<9223372036854775808
theorem e60(c:Cir)(h:c.wf)(p:Pat)(hp:PxOk p):∃r:AV×a03,(∃q,PatOk c.nodes q∧r=(.agg q.enc,[]))∧sM 43 [.agg p.enc,.agg c.enc] []=some r:=by
 have hn:=h.len;have hk0:=a4d c.nodes 0;have lF:=a4d c.nodes 14;have oy:=λH=>b84 (d:=true) H c h (n:=0) 0 rfl;have pW:=λH=>b84 (d:=true) H c h (n:=14) 14 rfl;obtain⟨a,a1,a2,ha⟩:=b6w p.ic p.ins hp.inv hp.inl (kinds c.nodes 0).length 4 (by omega) (by omega) (by omega) (by omega);obtain⟨b,b1,b2,hb⟩:=b6w p.sc p.sts hp.stv hp.stl (kinds c.nodes 14).length 3 (by omega) (by omega) (by omega) (by omega);have ha:=λH=>ha true H 4 rfl;have hb:=λH=>hb true H 3 rfl;simp only[Cir.enc]at oy pW;simp only[Cir.enc,Pat.enc]
 (refine svE Tryz.f43 ?_;simp only[Tryz.f43,gS])
 (repeat first|simp only[ww]|apply xa;simp+decide only[go_sem,oy,pW,ha,hb];rfl;kernel_rfl)
 refine a44 (vs:=[.agg (Pat.enc ⟨none,a,none,b⟩)]) (r:=(.agg (Pat.enc ⟨none,a,none,b⟩),[])) (by simp+decide only[go_sem]<;>rfl) ?_ ⟨_,⟨a1,b1,a2,b2⟩,rfl⟩;simp+decide only[go_sem]
theorem d66(c:Cir)(h:c.wf)(p:Pat)(hp:PxOk p):∃q,PatOk c.nodes q∧∀(d:Bool) (H:a03),cl d 43 [.agg p.enc,.agg c.enc] H=some (.agg q.enc,H,[]):=by obtain⟨r,⟨q,h1,rfl⟩,h2⟩:=e60 c h p hp;exact⟨q,h1,λd H=>cf (by simp only[a04,a0n,Cir.enc,Pat.enc,go_sem]) h2 (by simp only[a0n,Pat.enc,go_sem])⟩
/- patterns that fit -/
theorem d8k(v:Nat)(hv:v<=3):sM 105 [.int .u8 v] []=some (.bool false,[]):=by
 have c1:¬(3:Int)<v:=by omega
 (refine sv Tryz.f105 ?_;simp only[Tryz.f105,gS])
 (repeat first|simp only[ww]|apply xa;simp+decide only[go_sem,c1];rfl;kernel_rfl)
 (apply fqb;simp+decide only[go_sem]<;>rfl)
theorem c9g{d:Bool}(H:a03)(v:Nat)(hv:v<=3):cl d 105 [.int .u8 v] H=some (.bool false,H,[]):=cf rfl (d8k v hv) rfl
def b01:AV:=.func (.func 105) [] []
theorem d2n(r:Rep)(l:List Nat)(hl:l.length<1000000)(hc:∀v∈l,v<=3) :
 sM 139 [sl r (l.map u8R),b01] []=some (.int .i64 (-1),[]):=by
 unfold b01
 (refine sv Tryz.f139 ?_;simp only[Tryz.f139,gS])
 (repeat first|simp only[ww]|apply xa;simp+decide only[go_sem];rfl;kernel_rfl)
 refine a0m (σ:=Nat) kp139_0 (λi=>[(0,sl r (l.map u8R)),(1,b01),(7,.int .i64 l.length),(8,.int .i64 i)])
  (λ_=>[]) (λi=>l.length-i) (λi=>i<=l.length) 0 ?_ (f2i _) ?_
 ·unfold b01
  (simp+decide only[go_sem,a01,a00]<;>rfl)
 ·intro i hi;unfold b01;by_cases ai:i<l.length
  ·obtain⟨x,hx⟩:∃x,l[i]?=some x:=⟨_,z9e ai⟩
   have c1:(i:Int)<l.length:=by omega
   have hw:=wI1 (n:=i) (by omega);have gk:=λH=>c9g (d:=false) H x (hc x (c11 hx))
   (repeat first|simp only[ww]|apply xa;simp+decide only[go_sem,c1,ai,hx,hw,gk];rfl;kernel_rfl)
   refine a1m (i+1) ?_ (by omega) (by omega)
   (simp+decide only[go_sem,a01,a00,b01]<;>rfl)
  ·obtain rfl:i=l.length:=by omega
   have c1:¬(l.length:Int)<l.length:=by omega
   (repeat first|simp only[ww]|apply xa;simp+decide only[go_sem,c1];rfl;kernel_rfl)
   (apply fqb;simp+decide only[go_sem]<;>rfl)
theorem c8y(r:Rep)(l:List Nat)(hl:l.length<1000000)(hc:∀v∈l,v<=3) :
 sM 92 [sl r (l.map u8R),b01] []=some (.bool false,[]):=by
 have h:=λH=>a0v (E:=L.env) (ah:=false) (call:=sM) (g:=139) (fs:=[]) (cs:=[]) (ar:=[sl r (l.map u8R),b01]) (H:=H) (by kernel_rfl) (by kernel_rfl) rfl (by simp only[f1e,f1b,a04,b01,go_sem]) (d2n r l hl hc) rfl;have c1:¬(0:Int)<= -1:=by omega
 unfold b01 at h⊢
 (refine sv Tryz.f92 ?_;simp only[Tryz.f92,gS])
 (repeat first|simp only[ww]|apply xa;simp+decide only[go_sem,h,c1];rfl;kernel_rfl)
 (apply fqb;simp+decide only[go_sem]<;>rfl)
theorem b85{d:Bool}(H:a03)(r:Rep)(l:List Nat)(hl:l.length<1000000)(hc:∀v∈l,v<=3):cl d 92 [sl r (l.map u8R),.func (.func 105) [] []] H=some (.bool false,H,[]):=cf (by simp only[f1e,f1b,a04,go_sem]) (c8y r l hl hc) rfl
theorem e1x(c:Cir)(h:c.wf):kinds c.nodes 15=[]:=by
 unfold kinds a40;rw[List.filter_eq_nil_iff];intro j hj;have hj:j<c.nodes.length:=by simpa using hj
 obtain⟨x,hx⟩:∃x,c.nodes[j]?=some x:=⟨_,z9e hj⟩
 have:=h.kind x (c11 hx);rw[a0x hx];simp;omega
theorem e2b(c:Cir)(h:c.wf)(p:Pat)(hp:PatOk c.nodes p):sM 59 [.agg c.enc,.agg p.enc] []=some (.int .i64 0,[]):=by
 have hn:=h.len;have hk0:=a4d c.nodes 0;have lF:=a4d c.nodes 14;have l1:=hp.ins;have l2:=hp.sts;have ho:=λX Y=>b3b (d:=false) (H:=[X,Y,some (.row 1 [[.int .u8 15]])]) (b:=2) c (k:=15) rfl (by omega) rfl;rw[e1x c h,c5x]at ho;have hi:=λH=>a3q (d:=true) H c (by omega);have hs:=λH=>a6d (d:=true) H c (by omega);obtain⟨r0,e0⟩:=a4g (kinds c.nodes 0);obtain⟨r1,e1⟩:=a4g (kinds c.nodes 14);rw[e0]at hi;rw[e1]at hs;have dc:=λH=>b85 (d:=false) H p.ic p.ins (by omega) hp.inv;have eg:=λH=>b85 (d:=false) H p.sc p.sts (by omega) hp.stv;simp only[Cir.enc]at ho hi hs;simp only[Cir.enc,Pat.enc]
 (refine sv Tryz.f59 ?_;simp only[Tryz.f59,gS])
 (repeat first|simp only[ww]|apply xa;simp+decide only[go_sem,ho,hi,hs,dc,eg,l1,l2];rfl;kernel_rfl)
 (apply fqb;simp+decide only[go_sem]<;>rfl)
theorem d2g:sM 208 [.str (a1l 14)] []=some (.bool true,[]):=a0h (E:=L.env) a0q 60 (by kernel_rfl)
theorem d2f:sM 208 [.str (a1l 15)] []=some (.bool true,[]):=a0h (E:=L.env) a0q 60 (by kernel_rfl)
def a8c(c:Cir)(mm:Mm):AV:=.func (.func 211) [] [.iptr (a2x c mm)]
theorem c7s(c:Cir)(mm:Mm):refs (a8c c mm)=[]:=by rfl
theorem c3t(c:Cir)(mm:Mm):sM 175 [.agg (a2x c mm)] []=some (a8c c mm,[]):=by
 unfold a8c;simp only[a2x,a8s]
 (refine sv Tryz.f175 ?_;simp only[Tryz.f175,gS])
 (repeat first|simp only[ww]|apply xa;simp+decide only[go_sem];rfl;kernel_rfl)
 (apply fqb;simp+decide only[go_sem]<;>rfl)
theorem a61{d:Bool}(H:a03)(c:Cir)(mm:Mm):cl d 175 [.agg (a2x c mm)] H=some (a8c c mm,H,[]):=cf (by simp only[a04,a0n,a2x,a8s,go_sem]) (c3t c mm) rfl
theorem d69(c:Cir)(mm:Mm)(m:Nat)(hm:m<c.nodes.length):sM 211 [.int .i64 m,.iptr (a2x c mm)] []=some (.bool false,[]):=by
 have c1:¬(m:Int)<0:=by omega
 have c2:¬(c.nodes.length:Int)<=m:=by omega
 simp only[a2x,a8s]
 (refine sv Tryz.f211 ?_;simp only[Tryz.f211,gS])
 (repeat first|simp only[ww]|apply xa;simp+decide only[go_sem,c1,c2];rfl;kernel_rfl)
 (apply fqb;simp+decide only[go_sem]<;>rfl)
theorem b1q{d:Bool}(H:a03)(c:Cir)(mm:Mm)(m:Nat)(hm:m<c.nodes.length):a20 L.env d sM (a8c c mm) [.int .i64 m] H=some (.bool false,H,[]):=cf (by simp only[a04,a2x,a8s,go_sem]) (d69 c mm m hm) rfl
theorem a9p{d:Bool}(H:a03)(c:Cir)(mm:Mm)(r:Rep)(l:List Nat)(hl:l.length<1000000)(h:∀m∈l,m<c.nodes.length) :
 cl d 174 [sl r (l.map a13),a8c c mm] H=some (.bool false,H,[]):=
 cf (by simp only[f1e,f1b,a04,c7s,go_sem]) (b86 r l (a8c c mm) rfl hl (λm hm=>b1q [] c mm m (h m hm))) rfl
/- the drivers of a bus -/
theorem d1d(c:Cir)(mm:Mm)(m:Nat)(hm:m<c.nodes.length)(hk:a0u c.nodes m=12):sM 206 [.int .i64 m,.ptr 0 0 0] [some (.row 4 [(a2x c mm)])]=some (.bool false,[some (.row 4 [(a2x c mm)])]):=by
 obtain⟨x,hx⟩:∃x,c.nodes[m]?=some x:=⟨_,z9e hm⟩
 rw[a0x hx]at hk;simp only[a2x,a8s]
 (refine sv Tryz.f206 ?_;simp only[Tryz.f206,gS])
 (repeat first|simp only[ww]|apply xa;simp+decide only[go_sem,hx,hk,hm];rfl;kernel_rfl)
 (apply fqb;simp+decide only[go_sem]<;>rfl)
theorem a68(c:Cir)(mm:Mm):FlatR [(a2x c mm)]:=FlatR.cons (by simp only[a2x,a8s,go_sem]) FlatR.nil
theorem c3v{d:Bool}(H:a03)(c:Cir)(mm:Mm)(b m:Nat)(hb:a02 H b=some (.row 4 [(a2x c mm)]))(hm:m<c.nodes.length)(hk:a0u c.nodes m=12):a20 L.env d sM (.func (.func 206) [] [.ptr b 0 0]) [.int .i64 m] H=some (.bool false,H,[b]):=a2g (fs:=[]) (cs:=[.ptr b 0 0]) (ar:=[.int .i64 m]) (by kernel_rfl) (by kernel_rfl) rfl hb (a0p (a68 c mm)) (FlatO.row (a68 c mm)) rfl (au:=[.int .i64 m,.ptr 0 0 0]) (by simp[ren,a78]) (d1d c mm m hm hk) rfl
theorem c47(r:Rep)(l:List Nat)(c:Cir)(mm:Mm)(hl:l.length<1000000)(hc:∀m∈l,m<c.nodes.length∧a0u c.nodes m=12) :
 sM 210 [sl r (l.map a13),.func (.func 206) [] [.ptr 0 0 0]] [some (.row 4 [(a2x c mm)])]=some (.int .i64 (-1),[some (.row 4 [(a2x c mm)])]):=by
 have bh:a0d (a2x c mm)=[]:=by simp only[a2x,a8s,go_sem]
 have iE:∀π,(a2x c mm).map (ren π)=(a2x c mm):=λπ=>a31 π bh;have af:=λm h1 h2=>c3v (d:=false) [some (.row 4 [(a2x c mm)])] c mm 0 m rfl h1 h2;generalize he:(a2x c mm)=E at bh iE af
 (refine sv Tryz.f210 ?_;simp only[Tryz.f210,gS])
 (repeat first|simp only[ww]|apply xa;simp+decide only[go_sem];rfl;kernel_rfl)
 refine a0m (σ:=Nat) kp210_0 (λi=>[(0,sl r (l.map a13)),(1,.func (.func 206) [] [.ptr 0 0 0]),(7,.int .i64 l.length),(8,.int .i64 i)])
  (λ_=>[some (.row 4 [E])]) (λi=>l.length-i) (λi=>i<=l.length) 0 ?_ (f2i _) ?_
 ·(simp+decide only[go_sem,a01,a00,bh,iE]<;>rfl)
 ·intro i hi;by_cases ai:i<l.length
  ·obtain⟨x,hx⟩:∃x,l[i]?=some x:=⟨_,z9e ai⟩
   have c1:(i:Int)<l.length:=by omega
   have hw:=wI1 (n:=i) (by omega);have gk:=af x (hc x (c11 hx)).1 (hc x (c11 hx)).2
   (repeat first|simp only[ww]|apply xa;simp+decide only[go_sem,c1,ai,hx,hw,gk];rfl;kernel_rfl)
   refine a1m (i+1) ?_ (by omega) (by omega)
   (simp+decide only[go_sem,a01,a00,bh,iE]<;>rfl)
  ·obtain rfl:i=l.length:=by omega
   have c1:¬(l.length:Int)<l.length:=by omega
   (repeat first|simp only[ww]|apply xa;simp+decide only[go_sem,c1];rfl;kernel_rfl)
   (apply fqb;simp+decide only[go_sem,iE]<;>rfl)
theorem b9y(r:Rep)(l:List Nat)(c:Cir)(mm:Mm)(hl:l.length<1000000)(hc:∀m∈l,m<c.nodes.length∧a0u c.nodes m=12) :
 sM 174 [sl r (l.map a13),.func (.func 206) [] [.ptr 0 0 0]] [some (.row 4 [(a2x c mm)])]=some (.bool false,[some (.row 4 [(a2x c mm)])]):=by
 have h:=a2g (E:=L.env) (ah:=false) (call:=sM) (g:=210) (fs:=[]) (cs:=[]) (ar:=[sl r (l.map a13),.func (.func 206) [] [.ptr 0 0 0]]) (H:=[some (.row 4 [(a2x c mm)])]) (b:=0) (by kernel_rfl) (by kernel_rfl) rfl rfl (a0p (a68 c mm)) (FlatO.row (a68 c mm)) (by simp only[f1e,f1b,a04,go_sem]) (by simp only[f1e,f1b,f1a,f1g,b49];simp[ren,c0g,a78]) (c47 r l c mm hl hc) rfl;have c1:¬(0:Int)<= -1:=by omega
 have bh:a0d (a2x c mm)=[]:=by simp only[a2x,a8s,go_sem]
 have iE:∀π,(a2x c mm).map (ren π)=(a2x c mm):=λπ=>a31 π bh;generalize he:(a2x c mm)=E at bh iE h
 (refine sv Tryz.f174 ?_;simp only[Tryz.f174,gS])
 (repeat first|simp only[ww]|apply xa;simp+decide only[go_sem,h,c1];rfl;kernel_rfl)
 (apply fqb;simp+decide only[go_sem,iE]<;>rfl)
theorem c2f{d:Bool}{H:a03}{b:Nat}(c:Cir)(mm:Mm)(r:Rep)(l:List Nat)(hl:l.length<1000000)(hc:∀m∈l,m<c.nodes.length∧a0u c.nodes m=12)(hb:a02 H b=some (.row 4 [(a2x c mm)])) :
 cl d 174 [sl r (l.map a13),.func (.func 206) [] [.ptr b 0 0]] H=some (.bool false,H,[b]):=
 a2g (fs:=[]) (cs:=[]) (ar:=[sl r (l.map a13),.func (.func 206) [] [.ptr b 0 0]]) (by kernel_rfl) (by kernel_rfl) rfl hb (a0p (a68 c mm)) (FlatO.row (a68 c mm)) (by simp only[f1e,f1b,a04,go_sem]) (by simp only[f1e,f1b,f1a,f1g,b49];simp[ren,c0g,a78]) (b9y r l c mm hl hc) rfl
theorem e2r(c:Cir)(mm:Mm)(x:Nd)(hm:(x.kind<=14∧x.mem=0∧x.bit=0)∨(x.kind=15∧x.mem=0∧x.bit<=1)):sM 207 [.agg (a2x c mm),.agg x.enc] []=some (.bool true,[]):=by
 rcases hm with ⟨hk,m1,m2⟩|⟨hk,m1,m2⟩
 ·have c1:¬(x.kind:Int)=15:=by omega
  simp only[a2x,a8s,Nd.enc,m1,m2]
  (refine sv Tryz.f207 ?_;simp only[Tryz.f207,gS])
  (repeat first|simp only[ww]|apply xa;simp+decide only[go_sem,c1];rfl;kernel_rfl)
  (apply fqb;simp+decide only[go_sem]<;>rfl)
 ·have l3:x.bit=0∨x.bit=1:=by omega
  simp only[a2x,a8s,Nd.enc,m1,hk];rcases l3 with m2|m2
  ·rw[m2]
   (refine sv Tryz.f207 ?_;simp only[Tryz.f207,gS])
   (repeat first|simp only[ww]|apply xa;simp+decide only[go_sem];rfl;kernel_rfl)
   (apply fqb;simp+decide only[go_sem]<;>rfl)
  ·rw[m2]
   (refine sv Tryz.f207 ?_;simp only[Tryz.f207,gS])
   (repeat first|simp only[ww]|apply xa;simp+decide only[go_sem];rfl;kernel_rfl)
   (apply fqb;simp+decide only[go_sem]<;>rfl)
theorem d41{d:Bool}(H:a03)(c:Cir)(mm:Mm)(x:Nd)(hm:(x.kind<=14∧x.mem=0∧x.bit=0)∨(x.kind=15∧x.mem=0∧x.bit<=1)):cl d 207 [.agg (a2x c mm),.agg x.enc] H=some (.bool true,H,[]):=cf (by simp only[a04,a0n,a2x,a8s,go_sem]) (e2r c mm x hm) rfl
theorem d6e(c:Cir)(mm:Mm)(h:wfM c mm)(x:Nd)(hx:x∈c.nodes):sM 171 [.agg (a2x c mm),.agg x.enc] []=some (.int .i64 0,[]):=by
 have k14:=h.kind x hx;have bX:=h.lo x hx;have my:=h.hi x hx;have ak:x.ins.length<1000000:=by
  have:a23 x.kind<=16:=by
   have hk:x.kind=0∨x.kind=1∨x.kind=2∨x.kind=3∨x.kind=4∨x.kind=5∨x.kind=6∨x.kind=7∨x.kind=8∨x.kind=9∨x.kind=10∨x.kind=11∨x.kind=12∨x.kind=13∨x.kind=14∨x.kind=15:=by omega
   rcases hk with e|e|e|e|e|e|e|e|e|e|e|e|e|e|e|e<;>rw[e]<;>decide
  omega
 have hf:=λH=>b22 (d:=false) H x.kind (by omega);have ho:=λH=>a61 (d:=true) H c mm;have hc:=λH=>a9p (d:=true) H c mm x.c x.ins ak (h.ins x hx);have hb:=λH=>d41 (d:=false) H c mm x (h.mem x hx);have c1:¬(15:Int)<x.kind:=by omega
 have c2:¬(x.ins.length:Int)<a27 x.kind:=by omega
 have c3:¬(a23 x.kind:Int)<x.ins.length:=by omega
 have bh:a0d (a2x c mm)=[]:=by simp only[a2x,a8s,go_sem]
 by_cases hk:x.kind=13
 ·have bL:=λ(X:Option AObj)=>c2f (d:=false) (H:=[some (.row 4 [(a2x c mm)]),X]) (b:=0) c mm x.c x.ins ak (λm hm=>⟨h.ins x hx m hm,h.bus x hx hk m hm⟩) rfl;have ck:decide ((x.kind:Int)=13)=true:=f4m (by omega);simp only[a2x,a8s,Nd.enc]at ho hc hb bL⊢
  (refine sv Tryz.f171 ?_;simp only[Tryz.f171,gS])
  (repeat first|simp only[ww]|apply xa;simp+decide only[go_sem,hf,c1,c2,c3,ho,hc,hb,bL,ck];rfl;kernel_rfl)
  (apply fqb;simp+decide only[go_sem]<;>rfl)
 ·have ck:¬(x.kind:Int)=13:=by omega
  simp only[a2x,a8s,Nd.enc]at ho hc hb⊢
  (refine sv Tryz.f171 ?_;simp only[Tryz.f171,gS])
  (repeat first|simp only[ww]|apply xa;simp+decide only[go_sem,hf,c1,c2,c3,ho,hc,hb,ck];rfl;kernel_rfl)
  (apply fqb;simp+decide only[go_sem]<;>rfl)
theorem c81{d:Bool}(H:a03)(c:Cir)(mm:Mm)(h:wfM c mm)(x:Nd)(hx:x∈c.nodes):cl d 171 [.agg (a2x c mm),.agg x.enc] H=some (.int .i64 0,H,[]):=cf (by simp only[a04,a0n,a2x,a8s,go_sem]) (d6e c mm h x hx) rfl
theorem c8j(i:Nat)(hi:i<16):sM 208 [.str (a1l i)] []=some (.bool true,[]):=by
 have h:i=0∨i=1∨i=2∨i=3∨i=4∨i=5∨i=6∨i=7∨i=8∨i=9∨i=10∨i=11∨i=12∨i=13∨i=14∨i=15:=by omega
 rcases h with rfl|rfl|rfl|rfl|rfl|rfl|rfl|rfl|rfl|rfl|rfl|rfl|rfl|rfl|rfl|rfl
 ·exact c5t
 ·exact c5s
 ·exact c5r
 ·exact c5q
 ·exact c5p
 ·exact c5o
 ·exact c5n
 ·exact c5m
 ·exact c5l
 ·exact c5k
 ·exact c1z
 ·exact c1y
 ·exact c1x
 ·exact c1w
 ·exact d2g
 ·exact d2f
theorem c1v{d:Bool}(H:a03)(i:Nat)(hi:i<16):cl d 208 [.str (a1l i)] H=some (.bool true,H,[]):=cf rfl (c8j i hi) rfl
theorem c87{i j:Nat}(hi:i<16)(hj:j<16)(h:a1l i=a1l j):i=j:=by unfold a1l at h;simp only[List.cons.injEq,f8s,f9h]at h;have h1:=congrArg UInt8.toNat h.1;have h2:=congrArg UInt8.toNat h.2;simp only[UInt8.toNat_ofNat']at h1 h2;omega
theorem c6c(s:Nat)(hs:s<16):∀(l:List Nat) (b:Nat),(∀j∈l,j<s)->a1t (aeq L.env 6 9) (.str (a1l s)) (l.map λj=>.str (a1l j)) b=some none
 | [],b,_=>rfl
 |j::l,b,h=>by
  have aw:(a1l s==a1l j)=false:=by rw[f6o];intro e;have:=c87 hs (by have:=h j (by simp);omega) e;have:=h j (by simp);omega
  simp only[f1a,a1t,eqS,aw,f4i];exact c6c s hs l (b+1) (λj hj=>h j (by simp[hj]))
theorem c5h(i:Nat)(hi:i<16):a1t (aeq L.env 6 9) (.str (a1l i)) (a5o i) 0=some none:=c6c i hi _ 0 (λj hj=>by simpa using hj)
theorem c83(i:Nat)(hi:i<16):a5e L.env (a02 [some (nmO i)]) 122 (.map 0) (.str (a1l i)) false=some (.bool false):=by
 have h:=c5h i hi;have e:a5e L.env (a02 [some (nmO i)]) 122 (.map 0) (.str (a1l i)) false=match a1t (aeq L.env 6 9) (.str (a1l i)) (a5o i) 0 with
  |some (some j)=>match(List.replicate i (AV.bool true))[j]? with
   |some v=>some (bif false then .tuple [v,.bool true]else v)
   |none=>none
  |some none=>some (.bool false)
  |none=>none:=by kernel_rfl
 rw[e,h]
theorem c82(i:Nat)(hi:i<16):a21 L.env (a02 [some (nmO i)]) 122 (.map 0) (.str (a1l i)) (.bool true)=some (.set 0 (nmO (i+1))):=by
 have h:=c5h i hi;unfold a21;have e:a97 L.env (a02 [some (nmO i)]) 122 (.map 0) (.str (a1l i))=match a1t (aeq L.env 6 9) (.str (a1l i)) (a5o i) 0 with
  |some (some j)=>match(a5o i)[j]? with
   |some k0=>bif d46 k0 (.str (a1l i))then some (0,a5o i,List.replicate i (AV.bool true),List.range i,i,some j)else none
   |none=>none
  |some none=>some (0,a5o i,List.replicate i (AV.bool true),List.range i,i,none)
  |none=>none:=by kernel_rfl
 rw[e,h];simp only[nmO,b4n,f8o,List.replicate_succ']
theorem d1q(c:Cir)(mm:Mm)(h:wfM c mm):sM 172 [.agg (a2x c mm)] []=some (.int .i64 0,[]):=by
 have hn:=h.len;have jt:c.names.length=c.nodes.length:=by rw[h.names];simp
 simp only[a2x,a8s]
 (refine sv Tryz.f172 ?_;simp only[Tryz.f172,gS])
 (repeat first|simp only[ww]|apply xa;simp+decide only[go_sem];rfl;kernel_rfl)
 have e0:AObj.map [] [] [] 0=nmO 0:=by rfl
 refine a0m (σ:=Nat) kp172_0 (λi=>[(3,.map 0),(8,sl c.mc (c.names.map d0a)),(9,.int .i64 c.names.length),(10,.int .i64 i)])
  (λi=>[some (nmO i)]) (λi=>c.names.length-i) (λi=>i<=c.names.length) 0 ?_ (f2i _) ?_
 ·rw[e0]
  (simp+decide only[go_sem,a01,a00,b4m,c5g]<;>rfl)
 ·intro i hi;by_cases ai:i<c.names.length
  ·have hx:c.names[i]?=some (a1l i):=by rw[h.names,f1l,f6v (by omega)];rfl
   have c1:(i:Int)<c.names.length:=by omega
   have hw:=wI1 (n:=i) (by omega);have g8:=λH=>c1v (d:=false) H i (by omega);have pC:=c83 i (by omega);have kS:=c82 i (by omega)
   (repeat first|simp only[ww]|apply xa;simp+decide only[go_sem,c1,ai,hx,hw,g8,pC,kS];rfl;kernel_rfl)
   refine a1m (i+1) ?_ (by omega) (by omega)
   (simp+decide only[go_sem,a01,a00,b4m,c5g]<;>rfl)
  ·obtain rfl:i=c.names.length:=by omega
   have c1:¬(c.names.length:Int)<c.names.length:=by omega
   (repeat first|simp only[ww]|apply xa;simp+decide only[go_sem,c1];rfl;kernel_rfl)
   (apply fqb;simp+decide only[go_sem]<;>rfl)
theorem c4x(r:List AV)(rs:List (List AV))(c:Option Nat)(n:Nat)(h:rs.length+1<=n):sM 209 [.islice (r::rs) c,.int .i64 n] []=some (.bool false,[]):=by
 have c1:¬((rs.length+1:Nat):Int)=0:=by omega
 have c2:¬(n:Int)<((rs.length+1:Nat):Int):=by omega
 (refine sv Tryz.f209 ?_;simp only[Tryz.f209,gS])
 (repeat first|simp only[ww]|apply xa;simp+decide only[go_sem,c1,c2,f1c];rfl;kernel_rfl)
 (apply fqb;simp+decide only[go_sem]<;>rfl)
theorem d1t(c:Cir)(mm:Mm)(h:wfM c mm):sM 173 [.agg (a2x c mm),.agg [.islice [[.int .i64 mm.a]] (some 1),.islice [[.int .i64 mm.d0],[.int .i64 mm.d1]] (some 2),.int .i64 mm.w]] []=some (.int .i64 0,[]):=by
 obtain⟨p0,p1,p2,p3⟩:=h.port;have ho:=λH=>a61 (d:=false) H c mm;have dc:=λ(d:Bool) H=>a9p (d:=d) H c mm (some (some 1)) [mm.a] (by simp) (by simp;exact p0);have eg:=λ(d:Bool) H=>a9p (d:=d) H c mm (some (some 2)) [mm.d0,mm.d1] (by simp) (by simp;exact⟨p1,p2⟩);have pV:=λ(d:Bool) H=>b1q (d:=d) H c mm mm.w p3;have lq:=λ(d:Bool) (H:a03)=>a0v (E:=L.env) (ah:=d) (call:=sM) (H:=H) (g:=209) (fs:=[]) (cs:=[]) (ar:=[.islice [[.int .i64 mm.a]] (some 1),.int .i64 8]) (by kernel_rfl) (by kernel_rfl) rfl rfl (c4x _ [] _ 8 (by simp)) rfl;have eO:=λ(d:Bool) (H:a03)=>a0v (E:=L.env) (ah:=d) (call:=sM) (H:=H) (g:=209) (fs:=[]) (cs:=[]) (ar:=[.islice [[.int .i64 mm.d0],[.int .i64 mm.d1]] (some 2),.int .i64 32]) (by kernel_rfl) (by kernel_rfl) rfl rfl (c4x _ [[.int .i64 mm.d1]] _ 32 (by simp)) rfl;have hov:refs (a8c c mm)=[]:=rfl;have az:(a8c c mm).storable=true:=rfl;have bG:a7g (a8c c mm)=some (a8c c mm):=rfl;simp only[a5s,f1a,f1g,a13]at dc eg;generalize a8c c mm=O at ho dc eg pV hov az bG;simp only[a2x,a8s]at ho⊢
 (refine sv Tryz.f173 ?_;simp only[Tryz.f173,gS])
 (repeat first|simp only[ww]|apply xa;simp+decide only[go_sem,ho,dc,eg,pV,lq,eO,az,bG];rfl;kernel_rfl)
 (apply fqb;simp+decide only[go_sem]<;>rfl)
theorem c40{d:Bool}(H:a03)(c:Cir)(mm:Mm)(h:wfM c mm):cl d 173 [.agg (a2x c mm),.agg [.islice [[.int .i64 mm.a]] (some 1),.islice [[.int .i64 mm.d0],[.int .i64 mm.d1]] (some 2),.int .i64 mm.w]] H=some (.int .i64 0,H,[]):=cf (by simp only[a04,a0n,a2x,a8s,go_sem]) (d1t c mm h) rfl
theorem a77(c:Cir)(mm:Mm):a0d [.agg (a2x c mm)]=[]:=by simp only[a04,a0n,a2x,a8s,go_sem]
theorem c3y{d:Bool}(H:a03)(c:Cir)(mm:Mm)(h:wfM c mm):cl d 172 [.agg (a2x c mm)] H=some (.int .i64 0,H,[]):=cf (a77 c mm) (d1q c mm h) rfl
theorem d0q(c:Cir)(mm:Mm)(h:wfM c mm):sM 134 [.agg (a2x c mm)] []=some (.int .i64 0,[]):=by
 have hn:=h.len;have jt:c.names.length=c.nodes.length:=by rw[h.names];simp
 have cE:=h.outl;have c1:¬(16384:Int)<c.nodes.length:=by omega
 have c2:¬(16384:Int)<c.outs.length:=by omega
 have cR:=λH x hx=>c81 (d:=false) H c mm h x hx;have gQ:=λH=>c3y (d:=false) H c mm h;have jr:=λH=>a61 (d:=true) H c mm;have mF:=λH=>a9p (d:=true) H c mm c.oc c.outs (by omega) h.outs;have ak:(a2x c mm).length=4:=rfl;simp only[a2x,a8s]at cR gQ jr mF⊢
 (refine sv Tryz.f134 ?_;simp only[Tryz.f134,gS])
 (repeat first|simp only[ww]|apply xa;simp+decide only[go_sem,c1,c2,jt];rfl;kernel_rfl)
 refine a0m (σ:=Nat) kp134_1 (λi=>[(1,.ptr 0 0 0),(36,sl c.nc (c.nodes.map Nd.enc)),(37,.int .i64 c.nodes.length),(38,.int .i64 i)])
  (λi=>[some (.row 4 [[sl c.nc (c.nodes.map Nd.enc),sl c.mc (c.names.map d0a),.islice [[.islice [[.int .i64 mm.a]] (some 1),.islice [[.int .i64 mm.d0],[.int .i64 mm.d1]] (some 2),.int .i64 mm.w]] (some 1),sl c.oc (c.outs.map a13)]])]) (λi=>c.nodes.length-i) (λi=>i<=c.nodes.length) 0 ?_ (f2i _) ?_
 ·(simp+decide only[go_sem,a01,a00]<;>rfl)
 ·intro i hi;by_cases ai:i<c.nodes.length
  ·obtain⟨x,hx⟩:∃x,c.nodes[i]?=some x:=⟨_,z9e ai⟩
   have c1:(i:Int)<c.nodes.length:=by omega
   have hw:=wI1 (n:=i) (by omega);have gk:=λH=>cR H x (c11 hx);simp only[Nd.enc]at gk
   (repeat first|simp only[ww]|apply xa;simp+decide only[go_sem,c1,ai,hx,hw,gk];rfl;kernel_rfl)
   refine a1m (i+1) ?_ (by omega) (by omega)
   (simp+decide only[go_sem,a01,a00]<;>rfl)
  ·obtain rfl:i=c.nodes.length:=by omega
   have c1:¬(c.nodes.length:Int)<c.nodes.length:=by omega
   (repeat first|simp only[ww]|apply xa;simp+decide only[go_sem,c1,gQ];rfl;kernel_rfl)
   refine a0m (σ:=Nat) kp134_3 (λi=>[(1,.ptr 0 0 0),(55,.islice [[.islice [[.int .i64 mm.a]] (some 1),.islice [[.int .i64 mm.d0],[.int .i64 mm.d1]] (some 2),.int .i64 mm.w]] (some 1)),(56,.int .i64 1),(57,.int .i64 i)])
    (λi=>[some (.row 4 [[sl c.nc (c.nodes.map Nd.enc),sl c.mc (c.names.map d0a),.islice [[.islice [[.int .i64 mm.a]] (some 1),.islice [[.int .i64 mm.d0],[.int .i64 mm.d1]] (some 2),.int .i64 mm.w]] (some 1),sl c.oc (c.outs.map a13)]])]) (λi=>1-i) (λi=>i<=1) 0 ?_ (f2i _) ?_
   ·(simp+decide only[go_sem,a01,a00]<;>rfl)
   ·intro i hi;by_cases uW:i=0
    ·subst uW;have tz:=λ(d:Bool) H=>c40 (d:=d) H c mm h;simp only[a2x,a8s]at tz
     (repeat first|simp only[ww]|apply xa;simp+decide only[go_sem,tz];rfl;kernel_rfl)
     refine a1m 1 ?_ (by omega) (by omega)
     (simp+decide only[go_sem,a01,a00]<;>rfl)
    ·obtain rfl:i=1:=by omega
     (repeat first|simp only[ww]|apply xa;simp+decide only[go_sem,jr,mF];rfl;kernel_rfl)
     (apply fqb;simp+decide only[go_sem]<;>rfl)
theorem c3j{d:Bool}(H:a03)(c:Cir)(mm:Mm)(h:wfM c mm):cl d 134 [.agg (a2x c mm)] H=some (.int .i64 0,H,[]):=cf (a77 c mm) (d0q c mm h) rfl
def J0M(c:Cir)(mm:Mm)(n:Nat)(F:Frm)(H:a03):Prop:=∃i b aC fo,n=c.nodes.length-i∧i<=c.nodes.length∧
 F=[(3,.slice b 0 c.nodes.length (some c.nodes.length)),(4,a8c c mm),(18,sl c.nc (c.nodes.map Nd.enc)),(19,.int .i64 c.nodes.length),(20,.int .i64 i)]∧Two H b 2 aC (λ_=>none) (foE fo)∧FoOk c.nodes i 0 fo
def J2M(c:Cir)(mm:Mm)(i:Nat)(x:Nd)(n:Nat)(F:Frm)(H:a03):Prop:=∃k b aC fo,n=x.ins.length-k∧k<=x.ins.length∧
 F=[(3,.slice b 0 c.nodes.length (some c.nodes.length)),(4,a8c c mm),(5,.int .i64 i),(18,sl c.nc (c.nodes.map Nd.enc)),(19,.int .i64 c.nodes.length),(20,.int .i64 i),(26,sl x.c (x.ins.map a13)),(27,.int .i64 x.ins.length),(28,.int .i64 k)]∧Two H b 2 aC (λ_=>none) (foE fo)∧FoOk c.nodes i k fo
theorem c8u(c:Cir)(mm:Mm)(h:wfM c mm):∃r:AV×a03,(∃fo,FoOk c.nodes c.nodes.length 0 fo∧r=(AV.islice ((foE fo).mapIdx λj f=>[slF (cpT fo c.nodes.length j) f]) (some c.nodes.length),[]))∧sM 135 [.agg (a2x c mm)] []=some r:=by
 have hn:=h.len;have jr:=λH=>a61 (d:=false) H c mm;have aD:c.nodes.length<=1000000000:=by omega
 have hov:refs (a8c c mm)=[]:=rfl;have bM:∀π,ren π (a8c c mm)=a8c c mm:=λπ=>a0b π _ rfl;have eE:=λH m hm=>b1q (d:=false) H c mm m hm;generalize hO:a8c c mm=O at jr hov bM eE;simp only[a2x,a8s]at jr⊢
 (refine svE Tryz.f135 ?_;simp only[Tryz.f135,gS])
 (repeat first|simp only[ww]|apply xa;simp+decide only[go_sem,jr,aD];rfl;kernel_rfl)
 refine a3i kp135_0 (J0M c mm) (c.nodes.length-0) ?_ ?_
 ·refine a2z (c4z _ c.nodes.length 1 rfl) ?_ (by rw[a2l];simp;omega) ?_
  ·exact .inl (by simp+decide only[go_sem,hov])
  ·intro π b' aK H1 hb hT;refine⟨0,b',aK,_,rfl,f2i _,?_,hT,FoOk.zero _⟩;simp+decide only[go_sem,hb,bM,hO]<;>rfl
 ·rintro n F H ⟨i,b,aC,fo,rfl,hi,rfl,hT,hF⟩
  by_cases ai:i<c.nodes.length
  ·obtain⟨x,hx⟩:∃x,c.nodes[i]?=some x:=⟨_,z9e ai⟩
   have c1:(i:Int)<c.nodes.length:=by omega
   have hw:=wI1 (n:=i) (by omega);have dm:=a1i hT.top;have kQ:=a1s hx;rw[hO]
   (repeat first|simp only[ww]|apply xa;simp+decide only[go_sem,c1,ai,hx,hw,heapF_hi0,a5l,b08,b3z,a43];rfl;kernel_rfl)
   refine a3i kp135_2 (J2M c mm i x) (x.ins.length-0) ?_ ?_
   ·refine a2z (hT.more) ?_ (by rw[a2l,hF.len];omega) ?_
    ·exact .inl (by simp+decide only[go_sem,hov])
    ·intro π b' aK H1 hb hT;refine⟨0,b',aK,_,rfl,f2i _,?_,hT,hF⟩;simp+decide only[go_sem,hb,bM,hO]<;>rfl
   ·rintro n F H ⟨k,b,aC,fo,rfl,hk,rfl,hT,hF⟩
    rw[hO];by_cases bH:k<x.ins.length
    ·obtain⟨m,hm⟩:∃m,x.ins[k]?=some m:=⟨_,z9e bH⟩
     have bW:=h.ins x (c11 hx) m (c11 hm);have pk:=λH=>eE H m bW;have c2:(k:Int)<x.ins.length:=by omega
     have bQ:=h.insl (c11 hx);have eO:=wI1 (n:=k) (by omega);have dm:=a1i hT.top;have ey:=hT.top;have fF:m<fo.length:=by rw[hF.len];exact bW
     obtain⟨L,hL⟩:∃L,fo[m]?=some L:=⟨_,z9e fF⟩
     have aM:=a6g (aC:=aC) (cp:=λ_=>none) (a3s hL);have bF:=hF.step (by rw[kQ];exact hm) hL;have bT:(a3j aC (λ_=>none) (foE fo)).length=c.nodes.length:=by rw[a3n,a2l,hF.len]
     cases L with
     |nil=>
      simp only[f1g,slV]at aM
      (repeat first|simp only[ww]|apply xa;simp+decide only[go_sem,c2,bH,hm,eO,pk,dm,ey,bW,aM,heapF_hi0,a5l,a3y,b08,b3z,c0y,a43,a5k,e12,f2o,f1e,bT];rfl;kernel_rfl)
      refine a0y (x.ins.length-(k+1)) (by omega) ?_;have eU:=hT.app1 (o:=some (.row 2 [a4x (i,k)])) (x:=a4x (i,k)) (a3s hL) rfl rfl;have e2:(foE fo).set m [a4x (i,k)]=foE (fo.set m ([]++[(i,k)])):=b9r fo m [] i k;rw[e2]at eU;refine a2z eU ?_ (by rw[a2l,f4q,hF.len];omega) ?_
      ·exact .inl (by simp+decide only[go_sem,hov])
      ·intro π b' aK H1 hb hT;refine⟨k+1,b',aK,_,rfl,bH,?_,hT,bF⟩;simp+decide only[go_sem,hb,bM,hO]<;>rfl
     |cons a r=>
      simp only[f1a,slV]at aM;have aV:=hT.sub m _ (a3s hL) (by simp);obtain⟨s1,s2⟩:=aV;have s3:=a1i s1;simp only[f1a]at s1;have nR:r.length+1+1<=1000000000:=by have:=hF.totalM hL (h.len) (λy hy=>h.insl hy);simp only[f1c]at this;omega
      (repeat first|simp only[ww]|apply xa;simp+decide only[go_sem,c2,bH,hm,eO,pk,dm,ey,bW,aM,heapF_hi0,a5l,a3y,b7r,f4q,s1,s2,s3,nR,b08,b3z,c0y,a43,a5k,e12,f2o,f1e,bT];rfl;kernel_rfl)
      refine a0y (x.ins.length-(k+1)) (by omega) ?_;have eU:=hT.app2 (o:=some (.row 2 [a4x (i,k)])) (x:=a4x (i,k)) (a3s hL) rfl rfl;have e2:(foE fo).set m (a4x a::List.map a4x r++[a4x (i,k)])=foE (fo.set m (a::r++[(i,k)])):=b9r fo m (a::r) i k;rw[e2]at eU;rw[c10]at eU;refine a2z eU ?_ (by rw[a2l,f4q,hF.len];omega) ?_
      ·exact .inl (by simp+decide only[go_sem,hov])
      ·intro π b' aK H1 hb hT;refine⟨k+1,b',aK,_,rfl,bH,?_,hT,bF⟩;simp+decide only[go_sem,hb,bM,hO]<;>rfl
    ·obtain rfl:k=x.ins.length:=by omega
     have c2:¬(x.ins.length:Int)<x.ins.length:=by omega
     (repeat first|simp only[ww]|apply xa;simp+decide only[go_sem,c2,hw];rfl;kernel_rfl)
     refine a0y (c.nodes.length-(i+1)) (by omega) ?_;refine a2z hT ?_ (by rw[a2l,hF.len];omega) ?_
     ·exact .inl (by simp+decide only[go_sem,hov])
     ·intro π b' aK H1 hb hT;refine⟨i+1,b',aK,_,rfl,by omega,?_,hT,hF.next (by rw[kQ])⟩;simp+decide only[go_sem,hb,bM,hO]<;>rfl
  ·obtain rfl:i=c.nodes.length:=by omega
   have c1:¬(c.nodes.length:Int)<c.nodes.length:=by omega
   rw[hO]
   (repeat first|simp only[ww]|apply xa;simp+decide only[go_sem,c1];rfl;kernel_rfl)
   refine a3i kp135_4 (J4 c fo) (c.nodes.length-0) ?_ ?_
   ·refine a2z hT ?_ (by rw[a2l,hF.len];omega) ?_
    ·exact .inr (by simp+decide only[go_sem,hov])
    ·intro π b' aK H1 hb hT;refine⟨0,b',aK,rfl,f2i _,?_,by rw[c6h];exact hT⟩;simp+decide only[go_sem,hb,bM,hO]<;>rfl
   ·rintro n F H ⟨t,b,aC,rfl,ht,rfl,hT⟩
    by_cases dE:t<c.nodes.length
    ·have c2:(t:Int)<c.nodes.length:=by omega
     have eO:=wI1 (n:=t) (by omega);have dm:=a1i hT.top;have ey:=hT.top;obtain⟨L,hL⟩:∃L,fo[t]?=some L:=⟨_,z9e (by rw[hF.len];exact dE)⟩
     have aM:=a6g (aC:=aC) (cp:=cpT fo t) (a3s hL);have sh:cpT fo t t=none:=by simp[cpT]
     have bT:(a3j aC (cpT fo t) (foE fo)).length=c.nodes.length:=by rw[a3n,a2l,hF.len]
     rw[sh]at aM;have dB:∀H1,H1=H.set b (some (.row 1 ((a3j aC (cpT fo t) (foE fo)).set t [slV (aC t) (some L.length) (L.map a4x)])))->Two H1 b 2 aC (cpT fo (t+1)) (foE fo):=by
      intro H1 nU;have:=hT.clip (H1:=H1) (a3s hL) (by rw[nU,b2o dm]) (λc hc=>by rw[nU,a6v (f9l hc)])
      rwa [c6i hL]at this
     cases L with
     |nil=>
      simp only[f1g,slV]at aM;have cM:=λH=>b5q (d:=false) H
      (repeat first|simp only[ww]|apply xa;simp+decide only[go_sem,c2,dE,eO,dm,ey,aM,cM,bT,f4q];rfl;kernel_rfl)
      refine a0y (c.nodes.length-(t+1)) (by omega) ?_;refine a2z (dB _ rfl) ?_ (by rw[a2l,hF.len];omega) ?_
      ·exact .inr (by simp+decide only[go_sem,hov])
      ·intro π b' aK H1 hb hT;refine⟨t+1,b',aK,rfl,by omega,?_,hT⟩;simp+decide only[go_sem,hb,bM,hO]<;>rfl
     |cons a r=>
      simp only[f1a,slV]at aM;obtain⟨s1,s2⟩:=hT.sub t _ (a3s hL) (by simp);have cM:=b88 (d:=false) (H:=H) (b:=aC t) (n:=r.length+1) (hT.flat _ (c11 (a3s hL))) s1
      (repeat first|simp only[ww]|apply xa;simp+decide only[go_sem,c2,dE,eO,dm,ey,aM,cM,bT,f4q];rfl;kernel_rfl)
      refine a0y (c.nodes.length-(t+1)) (by omega) ?_;refine a2z (dB _ (by simp only[f1a,slV,c10,f1c])) ?_ (by rw[a2l,hF.len];omega) ?_
      ·exact .inr (by simp+decide only[go_sem,hov])
      ·intro π b' aK H1 hb hT;refine⟨t+1,b',aK,rfl,by omega,?_,hT⟩;simp+decide only[go_sem,hb,bM,hO]<;>rfl
    ·obtain rfl:t=c.nodes.length:=by omega
     have c2:¬(c.nodes.length:Int)<c.nodes.length:=by omega
     have hz:=hT.frz (some c.nodes.length);rw[a2l,hF.len]at hz
     (repeat first|simp only[ww]|apply xa;simp+decide only[go_sem,c2];rfl;kernel_rfl)
     refine b6h (vs:=[.slice b 0 c.nodes.length (some c.nodes.length)]) (r:=(_,[])) (by simp+decide only[go_sem]) ?_ ⟨fo,hF,rfl⟩;show a22 false 0 (.slice b 0 c.nodes.length (some c.nodes.length)) H=_;rw[c29,hz];rfl
theorem c2b(c:Cir)(mm:Mm)(h:wfM c mm):∃fo,FoOk c.nodes c.nodes.length 0 fo∧∀(d:Bool) (H:a03),cl d 135 [.agg (a2x c mm)] H=some (.islice (foR c fo) (some c.nodes.length),H,[]):=by obtain⟨r,⟨fo,h1,rfl⟩,h2⟩:=c8u c mm h;exact⟨fo,h1,λd H=>cf (a77 c mm) h2 rfl⟩
def e6l(c:Cir)(mm:Mm):Option AObj:=some (.row 4 [[sl c.nc (c.nodes.map Nd.enc),sl c.mc (c.names.map d0a),.islice [[.islice [[.int .i64 mm.a]] (some 1),.islice [[.int .i64 mm.d0],[.int .i64 mm.d1]] (some 2),.int .i64 mm.w]] (some 1),sl c.oc (c.outs.map a13)]])
attribute [go_sem] e6l
def g1w(c:Cir)(mm:Mm)(fo:List (List (Nat×Nat)))(n:Nat)(F:Frm)(H:a03):Prop:=∃(out left ready:List Nat) (done:Nat),n=c.nodes.length-done∧
 F=[(1,.ptr 0 0 0),(5,.slice 1 0 c.nodes.length (some c.nodes.length)),(6,.slice 2 0 c.nodes.length (some c.nodes.length)),(7,grV 3 (ready.map a13)),(10,.islice (foR c fo) (some c.nodes.length)),(11,.int .i64 done)]∧
 H=[e6l c mm,some (.row 1 (out.map a13)),some (.row 1 (left.map a13))]++grH 1 (ready.map a13)∧Kahn c.nodes left ready done []∧out.length=c.nodes.length∧(∀v∈out,v<=300*done)∧Lev c.nodes out ready done []
def g1v(c:Cir)(mm:Mm)(fo:List (List (Nat×Nat)))(done x:Nat)(L:List (Nat×Nat))(n:Nat)(F:Frm)(H:a03):Prop:=∃(out left ready:List Nat) (q:Nat),n=L.length-q∧q<=L.length∧
 F=[(1,.ptr 0 0 0),(5,.slice 1 0 c.nodes.length (some c.nodes.length)),(6,.slice 2 0 c.nodes.length (some c.nodes.length)),(7,grV 3 (ready.map a13)),(10,.islice (foR c fo) (some c.nodes.length)),(11,.int .i64 (done+1:Nat)),(12,.int .i64 x),(76,.islice (L.map a4x) (some L.length)),(77,.int .i64 L.length),(78,.int .i64 q)]∧
 H=[e6l c mm,some (.row 1 (out.map a13)),some (.row 1 (left.map a13))]++grH 1 (ready.map a13)∧Kahn c.nodes left ready done (L.take q)∧ready[done]?=some x∧out.length=c.nodes.length∧(∀v∈out,v<=300*done+q)∧Lev c.nodes out ready done (L.take q)
theorem c8e(c:Cir)(mm:Mm)(h:wfM c mm):∃r:AV×a03,(∃lv:List Nat,lv.length=c.nodes.length∧(∀v∈lv,v<=100000)∧Rises c.nodes lv∧r=(.tuple [.islice (lv.map a13) (some c.nodes.length),.int .i64 0],[]))∧sM 84 [.agg (a2x c mm)] []=some r:=by
 have hn:=h.len;obtain⟨fo,gW,jH⟩:=c2b c mm h;have jH:=jH false;have eQ:=λH=>c3j (d:=false) H c mm h;have aD:c.nodes.length<=1000000000:=by omega
 have uQ:a12 (e6l c mm)=[]:=by simp only[go_sem]
 simp only[a2x,a8s]at jH eQ⊢
 (refine svE Tryz.f84 ?_;simp only[Tryz.f84,gS])
 (repeat first|simp only[ww]|apply xa;simp+decide only[go_sem,eQ,aD];rfl;kernel_rfl)
 refine a0m (σ:=Nat) kp84_0 (λi=>[(1,.ptr 0 0 0),(5,.slice 1 0 c.nodes.length (some c.nodes.length)),(6,.slice 2 0 c.nodes.length (some c.nodes.length)),(7,grV 3 ((a2k c.nodes i).map a13)),(29,sl c.nc (c.nodes.map Nd.enc)),(30,.int .i64 c.nodes.length),(31,.int .i64 i)])
  (λi=>[e6l c mm,some (.row 1 ((List.replicate c.nodes.length 0).map a13)),some (.row 1 ((a2e c.nodes i).map a13))]++grH 1 ((a2k c.nodes i).map a13)) (λi=>c.nodes.length-i) (λi=>i<=c.nodes.length) 0 ?_ (f2i _) ?_
 ·rw[b51,show a2k c.nodes 0=[]from rfl]
  (simp+decide only[go_sem,a01,a00,f0w,f1g,a0r,a0s,a19,a1u]<;>rfl)
 ·intro i hi;by_cases ai:i<c.nodes.length
  ·obtain⟨x,hx⟩:∃x,c.nodes[i]?=some x:=⟨_,z9e ai⟩
   have c1:(i:Int)<c.nodes.length:=by omega
   have hw:=wI1 (n:=i) (by omega);have k14:=h.kind x (c11 hx);have bZ:=λH=>a91 (d:=false) H x.kind (by omega);have a7:(a2e c.nodes i).length=c.nodes.length:=by simp[a2e]
   have eJ:(a2e c.nodes i)[i]?=some 0:=by rw[a4i ai];simp
   have bT:=b73 c.nodes i;have bS:=b2k c.nodes i;have aF:=b0c ai;have eF:(a2e c.nodes (i+1))[i]?=some (a9m c.nodes i):=by rw[a4i ai];simp
   have bn:a9m c.nodes i=if a1r x.kind=true then x.ins.length else 0:=by unfold a9m;rw[a0x hx,a1s hx]
   have cK:((a2e c.nodes i).map a13).set i [AV.int .i64 (a9m c.nodes i)]=(a2e c.nodes (i+1)).map a13:=by rw[<-aF,f6y];rfl
   by_cases bv:a1r x.kind=true
   ·rw[f2w bv]at bn;rw[bn]at cK eF bS;by_cases hz:x.ins.length=0
    ·rw[f2w hz]at bS;have d8:(x.ins.length:Int)=0:=by omega
     rw[hz]at cK eF;generalize a2k c.nodes i=l at bT bS;cases l with
     |nil=>
      (repeat first|simp only[ww]|apply xa;simp+decide only[go_sem,c1,ai,hx,hw,bZ,bv,a7,eJ,cK,eF,hz,f1g,a0r,a0s];rfl;kernel_rfl)
      refine a1m (i+1) ?_ (by omega) (by omega);rw[bS]
      (simp+decide only[go_sem,a01,a00,f1g,f1e,f1a,a09,a0a,f1h,a19,a1u]<;>rfl)
     |cons a r=>
      simp only[f1c]at bT;have eB:r.length+1+1<=1000000000:=by omega
      (repeat first|simp only[ww]|apply xa;simp+decide only[go_sem,c1,ai,hx,hw,bZ,bv,a7,eJ,cK,eF,hz,f1a,a09,a0a,eB,f1c];rfl;kernel_rfl)
      refine a1m (i+1) ?_ (by omega) (by omega);rw[bS]
      (simp+decide only[go_sem,a01,a00,f2o,f1a,a09,a0a,a19,a1u,f1c]<;>rfl)
    ·rw[f2m hz]at bS;have d8:¬(x.ins.length:Int)=0:=by omega
     generalize a2k c.nodes i=l at bT bS;cases l with
     |nil=>
      (repeat first|simp only[ww]|apply xa;simp+decide only[go_sem,c1,ai,hx,hw,bZ,bv,a7,eJ,cK,eF,d8,f1g,a0r,a0s];rfl;kernel_rfl)
      refine a1m (i+1) ?_ (by omega) (by omega);rw[bS]
      (simp+decide only[go_sem,a01,a00,f1g,a0r,a0s,a19,a1u]<;>rfl)
     |cons a r=>
      (repeat first|simp only[ww]|apply xa;simp+decide only[go_sem,c1,ai,hx,hw,bZ,bv,a7,eJ,cK,eF,d8,f1a,a09,a0a];rfl;kernel_rfl)
      refine a1m (i+1) ?_ (by omega) (by omega);rw[bS]
      (simp+decide only[go_sem,a01,a00,f1a,a09,a0a,a19,a1u]<;>rfl)
   ·have bv:a1r x.kind=false:=by simpa using bv
    rw[bv]at bn;have bn:a9m c.nodes i=0:=bn;rw[bn,f2w rfl]at bS;have bP:=b52 ai bn
    ·
     generalize a2k c.nodes i=l at bT bS;cases l with
     |nil=>
      (repeat first|simp only[ww]|apply xa;simp+decide only[go_sem,c1,ai,hx,hw,bZ,bv,a7,eJ,f1g,a0r,a0s];rfl;kernel_rfl)
      refine a1m (i+1) ?_ (by omega) (by omega);rw[bS,<-bP]
      (simp+decide only[go_sem,a01,a00,f1g,f1e,f1a,a09,a0a,f1h,a19,a1u]<;>rfl)
     |cons a r=>
      simp only[f1c]at bT;have eB:r.length+1+1<=1000000000:=by omega
      (repeat first|simp only[ww]|apply xa;simp+decide only[go_sem,c1,ai,hx,hw,bZ,bv,a7,eJ,f1a,a09,a0a,eB,f1c];rfl;kernel_rfl)
      refine a1m (i+1) ?_ (by omega) (by omega);rw[bS,<-bP]
      (simp+decide only[go_sem,a01,a00,f2o,f1a,a09,a0a,a19,a1u,f1c]<;>rfl)
  ·obtain rfl:i=c.nodes.length:=by omega
   have c1:¬(c.nodes.length:Int)<c.nodes.length:=by omega
   have hK:=Kahn.start c.nodes;generalize a2k c.nodes c.nodes.length=ready at hK;generalize a2e c.nodes c.nodes.length=left at hK
   (repeat first|simp only[ww]|apply xa;simp+decide only[go_sem,c1,jH];rfl;kernel_rfl)
   refine a3i kp84_2 (g1w c mm fo) (c.nodes.length-0) ?_ ?_
   ·refine⟨_,_,?_,List.replicate c.nodes.length 0,left,ready,0,rfl,rfl,rfl,hK,by simp,by simp,Lev.start _ _ _⟩;cases ready with
    |nil=>(simp+decide only[go_sem,a01,a00,f1g,a0r,a0s,a19,a1u]<;>rfl)
    |cons a r=>(simp+decide only[go_sem,a01,a00,f1a,a09,a0a,a19,a1u]<;>rfl)
   ·rintro n F H ⟨out,left,ready,done,rfl,rfl,rfl,hK,cE,ek,hV⟩
    have aw:ready≠[]:=by
     rintro rfl
     have nB:done=0:=by have:=hK.dle;simpa using this
     subst nB;have h1:c.nodes.length<=0:=hK.all h.acyc;have h2:=h.pos;omega
    have hE:=hK.bound;have jK:=hK.dle;have bj:ready.map a13≠[]:=by simpa using aw
    rw[a4z 3 bj,a50 1 bj,c10];have oW:=wI1 (n:=done) (by omega);have a7:=hK.ll;by_cases ai:done<ready.length
    ·obtain⟨x,hx⟩:∃x,ready[done]?=some x:=⟨_,z9e ai⟩
     have lk:=hK.rn x (c11 hx);have c1:(done:Int)<ready.length:=by omega
     obtain⟨L,hL⟩:∃L,fo[x]?=some L:=⟨_,z9e (by rw[gW.len];exact lk)⟩
     have qM:=gW.node hL (f2q _);have vv:=gW.totalM hL hn (λy hy=>h.insl hy);have kJ:∀a,a<c.nodes.length->cnt L a=(a28 c.nodes a).count x:=λa ha=>by rw[gW.num x L hL a,f2w ha]
     have hg:=d36 hL lk;cases hLL:L with
     |nil=>
      subst hLL;simp only[f1g,slF]at hg
      (repeat first|simp only[ww]|apply xa;simp+decide only[go_sem,c1,ai,hx,oW,hg];rfl;kernel_rfl)
      refine a0y (c.nodes.length-(done+1)) (by omega) ⟨_,_,?_,out,left,ready,done+1,rfl,rfl,rfl,hK.next hx kJ,cE,λv hv=>by have:=ek v hv;omega,hV.next hx kJ⟩;rw[a4z 3 bj,a50 1 bj]
      (simp+decide only[go_sem,a01,a00,a19,a1u]<;>rfl)
     |cons l0 lr=>
      rw[hLL]at hg;simp only[f1a,slF]at hg;rw[<-f1a,<-hLL]at hg;have vw:L.length≠0:=by rw[hLL];simp
      have sN:¬(L.length:Int)=0:=by omega
      have nR:(L.map a4x).length=L.length:=c10 ..
      (repeat first|simp only[ww]|apply xa;simp+decide only[go_sem,c1,ai,hx,oW,hg,sN,nR];rfl;kernel_rfl)
      refine a3i kp84_4 (g1v c mm fo done x L) (L.length-0) ?_ ?_
      ·refine⟨_,_,?_,out,left,ready,0,rfl,f2i _,rfl,rfl,by rw[f2j];exact hK,hx,cE,λv hv=>by have:=ek v hv;omega,by rw[f2j];exact hV⟩;rw[a4z 3 bj,a50 1 bj]
       (simp+decide only[go_sem,a01,a00,a19,a1u]<;>rfl)<;>rfl
      ·clear hK hE jK bj a7 ek cE hx ai c1 aw hV
       rintro n F H ⟨out,left,ready,q,rfl,hq,rfl,rfl,hK,hx,cE,ek,hV⟩
       have hE:=hK.bound;have kz:=(f1i.1 hx).1;have aw:ready≠[]:=by rintro rfl;simp at kz
       have bj:ready.map a13≠[]:=by simpa using aw
       rw[a4z 3 bj,a50 1 bj,c10];have a7:=hK.ll;have dq:=wI1 (n:=q) (by omega);by_cases gK:q<L.length
       ·obtain⟨l,hl⟩:∃l,L[q]?=some l:=⟨_,z9e gK⟩
        obtain⟨a,p⟩:=l;have fK:a<c.nodes.length:=qM (a,p) (c11 hl);obtain⟨y,hy⟩:∃y,c.nodes[a]?=some y:=⟨_,z9e fK⟩
        have c2:(q:Int)<L.length:=by omega
        have k14:=h.kind y (c11 hy);have bZ:=λH=>a91 (d:=false) H y.kind (by omega);have ht:=a1b hl;have nq:(L.map a4x)[q]?=some [.int .i64 a,.int .i64 p]:=by rw[f1l,hl];rfl
        by_cases bv:a1r y.kind=true
        ·have kn:a1r (a0u c.nodes a)=true:=by rw[a0x hy];exact bv
         have g8:Pc.cnt (L.take q++[(a,p)]) a<=b7c c.nodes ready done a:=by refine g0n ?_ (d18 hK.nd hx);rw[<-kJ a fK,<-ht];unfold Pc.cnt;exact List.Sublist.count_le _ ((List.take_sublist _ _).map _)
         have jp:=hK.pos fK kn g8;have gQ:a∉ready:=λhm=>by have:=(hK.zero a fK).1 hm;omega
         have jx:=hK.dec fK kn g8;rw[<-ht]at jx;obtain⟨va,gv⟩:∃v,out[a]?=some v:=⟨_,z9e (by omega)⟩
         obtain⟨vx,ij⟩:∃v,out[x]?=some v:=⟨_,z9e (by omega)⟩
         obtain⟨w,hw⟩:∃v,left[a]?=some v:=⟨_,z9e (by omega)⟩
         have oX:left.getD a 0=w:=by rw[List.getD,hw];rfl
         rw[oX]at jp jx;have bx:=ek vx (c11 ij);have ba:=ek va (c11 gv);have lq:=wI1 (n:=vx) (by omega);have eO:IntKind.i64.wrap ((w:Int)-1)=((w-1:Nat):Int):=by
          have iy:w<=100000:=by have h1:=hK.eq a fK kn;rw[oX]at h1;have h2:b7c c.nodes ready done a<=(a28 c.nodes a).length:=List.length_filter_le _ _;rw[a1s hy]at h2;have h3:=h.insl (c11 hy);omega
          rw[w64 (by omega) (by omega)];omega
         have pz:d50 (.int .i64 va) [.int .i64 ((vx+1:Nat):Int)]=some (.int .i64 ((max va (vx+1):Nat):Int)):=c6v _ _;have o7:(out.map a13).set a [AV.int .i64 ((max va (vx+1):Nat):Int)]=(out.set a (max va (vx+1))).map a13:=by rw[f6y];rfl
         have o8:(left.map a13).set a [AV.int .i64 ((w-1:Nat):Int)]=(left.set a (w-1)).map a13:=by rw[f6y];rfl
         have pK:(left.set a (w-1))[a]?=some (w-1):=by rw[f3a];simp;omega
         have bX:(left.set a (w-1)).length=c.nodes.length:=by rw[f4q];exact a7
         have lA:(out.set a (max va (vx+1))).length=c.nodes.length:=by rw[f4q];exact cE
         have ke:∀v∈out.set a (max va (vx+1)),v<=300*done+(q+1):=by
          intro v hv;rcases f8d hv with hv|rfl
          ·have:=ek v hv;omega
          ·omega
         have u5:done<c.nodes.length:=by omega
         have sA:a<left.length:=by omega
         have lm:x<out.length:=by omega
         by_cases hz:w-1=0
         ·rw[f2w hz]at jx;have d8:decide (((w-1:Nat):Int)=0)=true:=f4m (by omega);have eB:ready.length+1<=1000000000:=by omega
          have fY:(ready++[a])[done]?=some x:=by rw[f2l kz];exact hx
          (repeat first|simp only[ww]|apply xa;simp+decide only[go_sem,c2,gK,nq,hy,bZ,bv,dq,fK,gv,ij,hw,cE,a7,lk,lq,eO,pz,o7,o8,pK,bX,lA,d8,eB];rfl;kernel_rfl)
          refine a0y (L.length-(q+1)) (by omega) ⟨_,_,?_,out.set a (max va (vx+1)),left.set a (w-1),ready++[a],q+1,rfl,gK,rfl,rfl,jx,fY,lA,ke,by rw[ht];exact hV.dec hx gQ gv ij (.inr rfl)⟩
          (simp+decide only[go_sem,a01,a00,b9k,c60,a19,a1u]<;>rfl)<;>rfl
         ·rw[f2m hz]at jx;have d8:¬((w-1:Nat):Int)=0:=by omega
          (repeat first|simp only[ww]|apply xa;simp+decide only[go_sem,c2,gK,nq,hy,bZ,bv,dq,fK,gv,ij,hw,cE,a7,lk,lq,eO,pz,o7,o8,pK,bX,lA,d8];rfl;kernel_rfl)
          refine a0y (L.length-(q+1)) (by omega) ⟨_,_,?_,out.set a (max va (vx+1)),left.set a (w-1),ready,q+1,rfl,gK,rfl,rfl,jx,hx,lA,ke,by rw[ht];exact hV.dec hx gQ gv ij (.inl rfl)⟩;rw[a4z 3 bj,a50 1 bj]
          (simp+decide only[go_sem,a01,a00,a19,a1u]<;>rfl)<;>rfl
        ·have bv:a1r y.kind=false:=by simpa using bv
         (repeat first|simp only[ww]|apply xa;simp+decide only[go_sem,c2,gK,nq,hy,bZ,bv,dq,fK];rfl;kernel_rfl)
         refine a0y (L.length-(q+1)) (by omega) ⟨_,_,?_,out,left,ready,q+1,rfl,gK,rfl,rfl,by rw[ht];exact hK.skip (by rw[a0x hy];exact bv),hx,cE,λv hv=>by have:=ek v hv;omega,by rw[ht];exact hV.skip (by rw[a0x hy];exact bv)⟩;rw[a4z 3 bj,a50 1 bj]
         (simp+decide only[go_sem,a01,a00,a19,a1u]<;>rfl)<;>rfl
       ·obtain rfl:q=L.length:=by omega
        have c2:¬(L.length:Int)<L.length:=by omega
        rw[f6p]at hK hV
        (repeat first|simp only[ww]|apply xa;simp+decide only[go_sem,c2];rfl;kernel_rfl)
        refine a0y (c.nodes.length-(done+1)) (by omega) ⟨_,_,?_,out,left,ready,done+1,rfl,rfl,rfl,hK.next hx kJ,cE,λv hv=>by have:=ek v hv;omega,hV.next hx kJ⟩;rw[a4z 3 bj,a50 1 bj]
        (simp+decide only[go_sem,a01,a00,a19,a1u]<;>rfl)<;>rfl
    ·obtain rfl:done=ready.length:=by omega
     have c1:¬(ready.length:Int)<ready.length:=by omega
     have aW:=hK.all h.acyc;have c2:¬(ready.length:Int)<c.nodes.length:=by omega
     (repeat first|simp only[ww]|apply xa;simp+decide only[go_sem,c1,c2];rfl;kernel_rfl)
     refine a44 (vs:=[.slice 1 0 c.nodes.length (some c.nodes.length),.int .i64 0]) (r:=(_,[])) (by simp+decide only[go_sem]) ?_ ⟨out,cE,λv hv=>by have:=ek v hv;omega,hV.all hK aW,rfl⟩;show a22 false 0 (.tuple [.slice 1 0 c.nodes.length (some c.nodes.length),.int .i64 0]) _=_;rw[<-cE];simp+decide only[go_sem,d7c]
theorem c1o(c:Cir)(mm:Mm)(h:wfM c mm):∃lv:List Nat,lv.length=c.nodes.length∧(∀v∈lv,v<=100000)∧Rises c.nodes lv∧∀(d:Bool) (H:a03),cl d 84 [.agg (a2x c mm)] H=some (.tuple [.islice (lv.map a13) (some c.nodes.length),.int .i64 0],H,[]):=by obtain⟨r,⟨lv,h1,h2,hR,rfl⟩,h3⟩:=c8e c mm h;exact⟨lv,h1,h2,hR,λd H=>cf (a77 c mm) h3 rfl⟩
theorem c85(c:Cir)(mm:Mm)(h:wfM c mm):sM 34 [.agg (a2x c mm)] []=some (.int .i64 0,[]):=by
 obtain⟨lv,_,_,_,hc⟩:=c1o c mm h;have hc:=hc false;simp only[a2x,a8s]at hc⊢
 (refine sv Tryz.f34 ?_;simp only[Tryz.f34,gS])
 (repeat first|simp only[ww]|apply xa;simp+decide only[go_sem,hc];rfl;kernel_rfl)
 (apply fqb;simp+decide only[go_sem]<;>rfl)
theorem c1h{d:Bool}(H:a03)(c:Cir)(mm:Mm)(h:wfM c mm):cl d 34 [.agg (a2x c mm)] H=some (.int .i64 0,H,[]):=cf (a77 c mm) (c85 c mm h) rfl
structure ConeE(c:Cir)(a:Nat)(inn:List Bool)(T:List Nat)(J:List (List AV))(cap:Option Nat)(X:Nat->Prop):Prop where
 len:inn.length=c.nodes.length
 mark:∀b:Nat,inn[b]?=some true->DepOn c.nodes a b
 todo:∀t∈T,t<c.nodes.length∧DepOn c.nodes a t
 flat:FlatR J
 cap:cap=none∨(cap=some 1∧T.length+J.length=1)
 me:inn[a]?=some true
 clo:∀y:Nat,inn[y]?=some true->y∈T∨a0u c.nodes y=14∨X y∨∀m∈a28 c.nodes y,inn[m]?=some true
theorem b8p{l:List Bool}{m x:Nat}(h:l[x]?=some true):(l.set m true)[x]?=some true:=by
 rw[f3a];have hl:=(f1i.1 h).1;split
 ·rename_i e;subst e;rw[f2w hl]
 ·exact h
theorem c94{c:Cir}{inn:List Bool}(hc:∀y:Nat,inn[y]?=some true->a0u c.nodes y=14∨∀m∈a28 c.nodes y,inn[m]?=some true){a b:Nat}(h:DepOn c.nodes a b):inn[a]?=some true->inn[b]?=some true:=by
 induction h with
 |refl a=>exact id
 |step hk hm _ ih=>
  intro ha;rcases hc _ ha with e|e
  ·exact absurd e hk
  ·exact ih (e _ hm)
def JE0(c:Cir)(a:Nat)(n:Nat)(F:Frm)(H:a03):Prop:=∃inn T J cap,n=inn.count false+T.length∧n<=c.nodes.length∧F=[(2,.ptr 0 0 0),(5,.slice 1 0 c.nodes.length (some c.nodes.length)),(6,.slice 2 0 T.length cap)]∧H=cnH c inn T J∧ConeE c a inn T J cap (λ_=>False)
def JE2(c:Cir)(a t:Nat)(x:Nd)(N n:Nat)(F:Frm)(H:a03):Prop:=∃inn T J cap k,n=x.ins.length-k∧k<=x.ins.length∧inn.count false+T.length<N∧N<=c.nodes.length∧F=[(2,.ptr 0 0 0),(5,.slice 1 0 c.nodes.length (some c.nodes.length)),(6,.slice 2 0 T.length cap),(45,sl x.c (x.ins.map a13)),(46,.int .i64 x.ins.length),(47,.int .i64 k)]∧H=cnH c inn T J∧ConeE c a inn T J cap (λy=>y=t)∧(∀(j m:Nat),j<k->x.ins[j]?=some m->inn[m]?=some true)
theorem d7r(c:Cir)(h:c.wf)(a:Nat)(ha:a<c.nodes.length):∃r:AV×a03,(∃l:List Bool,l.length=c.nodes.length∧(∀b:Nat,l[b]?=some true↔DepOn c.nodes a b)∧r=(.islice (l.map a8f) (some c.nodes.length),[]))∧sM 100 [.agg c.enc,.int .i64 a] []=some r:=by
 have hn:=h.len;have aD:c.nodes.length<=1000000000:=by omega
 have az:(List.replicate c.nodes.length [AV.bool false]).set a [AV.bool true]=((List.replicate c.nodes.length false).set a true).map a8f:=by rw[e5p,f6y];rfl
 have jE:(List.replicate c.nodes.length [AV.bool false])[a]?=some [AV.bool false]:=by rw[f4w,f2w ha]
 have rR:(List.replicate c.nodes.length false)[a]?=some false:=by rw[f4w,f2w ha]
 have iS:((List.replicate c.nodes.length false).set a true).count false+1<=c.nodes.length:=by rw[b18 rR];exact g0n List.count_le_length (by simp)
 simp only[Cir.enc]
 (refine svE Tryz.f100 ?_;simp only[Tryz.f100,gS])
 (repeat first|simp only[ww]|apply xa;simp+decide only[go_sem,aD,ha,jE];rfl;kernel_rfl)
 refine a3i kp100_0 (JE0 c a) (((List.replicate c.nodes.length false).set a true).count false+1) ?_ ?_
 ·refine⟨_,_,?_,(List.replicate c.nodes.length false).set a true,[a],[],some 1,rfl,iS,rfl,rfl,⟨by simp,?_,?_,FlatR.nil,.inr ⟨rfl,rfl⟩,by rw[List.getElem?_set_self (by simpa using ha)],?_⟩⟩
  ·rw[cnH]
   (simp+decide only[go_sem,a01,a00,a55,a8b,az]<;>rfl)<;>rfl
  ·intro b hb;rw[f3a]at hb;by_cases cP:a=b
   ·subst cP;exact .refl _
   ·rw[f2m cP,f4w]at hb;split at hb<;>cases hb
  ·intro t ht;simp only[f2x]at ht;subst ht;exact⟨ha,.refl _⟩
  ·intro y hy;left;rw[f3a]at hy;by_cases cP:a=y
   ·simp[cP]
   ·rw[f2m cP,f4w]at hy;split at hy<;>cases hy
 ·rintro N F H ⟨inn,T,J,cap,rfl,hB,rfl,rfl,hC⟩
  rw[cnH];rcases List.eq_nil_or_concat T with rfl|⟨T,t,rfl⟩
  · -- nothing is left
   (repeat first|simp only[ww]|apply xa;simp+decide only[go_sem];rfl;kernel_rfl)
   refine a44 (vs:=[.slice 1 0 c.nodes.length (some c.nodes.length)]) (r:=(_,[])) (by simp+decide only[go_sem]) ?_ ⟨inn,hC.len,λb=>⟨hC.mark b,λhd=>c94 (λy hy=>by
    rcases hC.clo y hy with e|e|e|e
    ·cases e
    ·exact .inl e
    ·exact e.elim
    ·exact .inr e) hd hC.me⟩,rfl⟩
   show a22 false 0 (.slice 1 0 c.nodes.length (some c.nodes.length)) _=_;rw[<-hC.len];simp+decide only[go_sem,e72]
  ·simp only[List.concat_eq_append]at hB hC⊢;obtain⟨lw,gw⟩:=hC.todo t (by simp);obtain⟨x,hx⟩:∃x,c.nodes[t]?=some x:=⟨_,z9e lw⟩
   have ak:(T++[t]).length=T.length+1:=by simp
   rw[ak]at hB;have c1:(0:Int)<((T.length+1:Nat):Int):=by omega
   have ib:T.length+1<=c.nodes.length:=by omega
   have aV:IntKind.i64.wrap (((T.length+1:Nat):Int)-1)=(T.length:Int):=by rw[w64 (by omega) (by omega)];omega
   have gd:(T++[t]).map a13++J=T.map a13++(a13 t::J):=by simp
   have aM:(T.map a13++(a13 t::J))[T.length]?=some (a13 t):=by rw[f2r (by simp)];simp
   have bf:T.length<=T.length+1:=by omega
   have go:ConeE c a inn T (a13 t::J) cap (λy=>y=t):=⟨hC.len,hC.mark,λs hs=>hC.todo s (by simp[hs]),FlatR.cons rfl hC.flat,hC.cap.imp id (λ⟨e1,e2⟩=>⟨e1,by rw[ak]at e2;simp;omega⟩),hC.me,λy hy=>by
    rcases hC.clo y hy with e|e|e|e
    ·rcases f4s.1 e with e|e
     ·exact .inl e
     ·exact .inr (.inr (.inl (f2x.1 e)))
    ·exact .inr (.inl e)
    ·exact e.elim
    ·exact .inr (.inr (.inr e))⟩
   have iQ:=a06 go.flat;have iG:=λπ=>a05 π go.flat;rw[gd,ak];generalize hJ':a13 t::J=J' at aM go iQ iG;have ep:=c11 hx;have bQ:=h.insl ep;have cM:a1j (T.length+1) cap=T.length+1∨a1j (T.length+1) cap=1:=by
    rcases hC.cap with e|⟨e,_⟩<;>rw[e]
    ·exact .inl rfl
    ·exact .inr rfl
   have iL:T.length<=a1j (T.length+1) cap:=by
    rcases hC.cap with e|⟨e,e2⟩
    ·rw[e];show T.length<=T.length+1;omega
    ·rw[e];show T.length<=1;rw[ak]at e2;omega
   by_cases h14:x.kind=14
   ·have c3:decide ((x.kind:Int)=14)=true:=f4m (by omega)
    (repeat first|simp only[ww]|apply xa;simp+decide only[go_sem,c1,aV,aM,hx,lw,c3,iL,bf,a43];rfl;kernel_rfl)
    refine a0y (inn.count false+T.length) (by omega) ⟨_,_,?_,inn,T,J',cap,rfl,by omega,rfl,rfl,⟨go.len,go.mark,go.todo,go.flat,go.cap,go.me,λy hy=>by
     rcases go.clo y hy with e|e|e|e
     ·exact .inl e
     ·exact .inr (.inl e)
     ·subst e;exact .inr (.inl (by rw[a0x hx];exact h14))
     ·exact .inr (.inr (.inr e))⟩⟩
    rw[cnH]
    (simp+decide only[go_sem,a01,a00,a55,a8b,a19,a1u,iQ,iG]<;>rfl)<;>rfl
   have c3:¬(x.kind:Int)=14:=by omega
   (repeat first|simp only[ww]|apply xa;simp+decide only[go_sem,c1,aV,aM,hx,lw,c3,iL,bf,a43];rfl;kernel_rfl)
   refine a3i kp100_2 (JE2 c a t x (inn.count false+(T.length+1))) (x.ins.length-0) ?_ ?_
   ·refine⟨_,_,?_,inn,T,J',cap,0,rfl,f2i _,by omega,hB,rfl,rfl,go,λj m hj=>by omega⟩;rw[cnH]
    (simp+decide only[go_sem,a01,a00,a55,a8b,a19,a1u,iQ,iG]<;>rfl)<;>rfl
   ·generalize inn.count false+(T.length+1)=N at hB⊢;clear go iQ iG aM cM iL hC gd aV c1 bf ib ak hJ';clear J' inn cap J
    rintro n F H ⟨inn,T,J,cap,k,rfl,hk,hN,kG,rfl,rfl,hC,hP⟩
    rw[cnH];have iQ:=a06 hC.flat;have iG:=λπ=>a05 π hC.flat;by_cases bH:k<x.ins.length
    ·obtain⟨m,hm⟩:∃m,x.ins[k]?=some m:=⟨_,z9e bH⟩
     have bW:=h.ins x ep m (c11 hm);have c2:(k:Int)<x.ins.length:=by omega
     have hw:=wI1 (n:=k) (by omega);obtain⟨q,hq⟩:∃q,inn[m]?=some q:=⟨_,z9e (by rw[hC.len];exact bW)⟩
     have ft:=hC.len;have dl:DepOn c.nodes a m:=gw.snoc (by rw[a0x hx];exact h14) (by rw[a1s hx];exact c11 hm);cases q with
     |true=>
      (repeat first|simp only[ww]|apply xa;simp+decide only[go_sem,c2,bH,hm,hw,bW,hq,ft];rfl;kernel_rfl)
      refine a0y (x.ins.length-(k+1)) (by omega) ⟨_,_,?_,inn,T,J,cap,k+1,rfl,bH,hN,kG,rfl,rfl,hC,λj m2 hj cF=>by
       by_cases e:j=k
       ·subst e;rw[hm]at cF;cases cF;exact hq
       ·exact hP j m2 (by omega) cF⟩
      rw[cnH]
      (simp+decide only[go_sem,a01,a00,a55,a8b,a19,a1u,iQ,iG]<;>rfl)<;>rfl
     |false=>
      have az:(inn.map a8f).set m [AV.bool true]=(inn.set m true).map a8f:=by rw[f6y];rfl
      have cL:=b18 hq;have lT:T.length+1<=1000000000:=by omega
      have lY:∀J' gq,FlatR J'->(gq=none∨(gq=some 1∧(T++[m]).length+J'.length=1))->ConeE c a (inn.set m true) (T++[m]) J' gq (λy=>y=t):=by
       intro J' gq hf aY;refine⟨by rw[f4q];exact hC.len,?_,?_,hf,aY,b8p hC.me,?_⟩
       ·intro b hb;rw[f3a]at hb;by_cases ni:m=b
        ·subst ni;exact dl
        ·rw[f2m ni]at hb;exact hC.mark b hb
       ·intro s hs;simp only[f4s,f2x]at hs;rcases hs with hs|rfl
        ·exact hC.todo s hs
        ·exact⟨bW,dl⟩
       ·intro y hy;by_cases kP:y=m
        ·left;rw[kP];simp
        rw[f3a,f2m (λe=>kP e.symm)]at hy;rcases hC.clo y hy with e|e|e|e
        ·left;simp[e]
        ·exact .inr (.inl e)
        ·exact .inr (.inr (.inl e))
        ·exact .inr (.inr (.inr λm2 cF=>b8p (e m2 cF)))
      have qK:∀(j m2:Nat),j<k+1->x.ins[j]?=some m2->(inn.set m true)[m2]?=some true:=λj m2 hj cF=>by
       by_cases e:j=k
       ·subst e;rw[hm]at cF;cases cF;exact List.getElem?_set_self (by rw[hC.len];exact bW)
       ·exact b8p (hP j m2 (by omega) cF)
      have lV:(inn.set m true).count false+(T++[m]).length<N:=by simp;omega
      rcases hC.cap with rfl|⟨rfl,h1⟩
      ·cases J with
       |nil=>
        (repeat first|simp only[ww]|apply xa;simp+decide only[go_sem,c2,bH,hm,hw,bW,hq,ft,az,lT,f1b];rfl;kernel_rfl)
        refine a0y (x.ins.length-(k+1)) (by omega) ⟨_,_,?_,inn.set m true,T++[m],[],none,k+1,rfl,bH,lV,kG,rfl,rfl,lY [] none FlatR.nil (.inl rfl),qK⟩;rw[cnH]
        (simp+decide only[go_sem,a01,a00,a55,a8b,a19,a1u,az,f1b]<;>rfl)<;>rfl
       |cons j js=>
        have aw:¬(T.length=T.length+(js.length+1)):=by omega
        have bY:T.length<=T.length+(js.length+1):=by omega
        have dF:(T.map a13++(j::js)).take T.length=T.map a13:=by rw[List.take_append_of_le_length (by simp)];exact b2f a13 T
        (repeat first|simp only[ww]|apply xa;simp+decide only[go_sem,c2,bH,hm,hw,bW,hq,ft,az,lT,aw,bY,dF,f1c];rfl;kernel_rfl)
        refine a0y (x.ins.length-(k+1)) (by omega) ⟨_,_,?_,inn.set m true,T++[m],[],none,k+1,rfl,bH,lV,kG,rfl,rfl,lY [] none FlatR.nil (.inl rfl),qK⟩;rw[cnH]
        (simp+decide only[go_sem,a01,a00,a55,a8b,a19,a1u,az,f1b]<;>rfl)<;>rfl
      ·cases T with
       |nil=>
        obtain⟨j,rfl⟩:∃j,J=[j]:=by
         cases J with
         |nil=>simp at h1
         |cons j js=>cases js with
          |nil=>exact⟨j,rfl⟩
          |cons=>simp only[f1c,f1h]at h1;omega
        (repeat first|simp only[ww]|apply xa;simp+decide only[go_sem,c2,bH,hm,hw,bW,hq,ft,az,lT,f1g,f1e,f1h,f1c];rfl;kernel_rfl)
        refine a0y (x.ins.length-(k+1)) (by omega) ⟨_,_,?_,inn.set m true,[m],[],some 1,k+1,rfl,bH,lV,kG,rfl,rfl,lY [] (some 1) FlatR.nil (.inr ⟨rfl,rfl⟩),qK⟩;rw[cnH]
        (simp+decide only[go_sem,a01,a00,a55,a8b,a19,a1u,az,f1b,f1a,f1g]<;>rfl)<;>rfl
       |cons t0 ts=>
        obtain rfl:ts=[]:=by cases ts with
         |nil=>rfl
         |cons=>simp only[f1c,f1h]at h1;omega
        obtain rfl:J=[]:=by cases J with
         |nil=>rfl
         |cons=>simp only[f1c,f1h]at h1;omega
        (repeat first|simp only[ww]|apply xa;simp+decide only[go_sem,c2,bH,hm,hw,bW,hq,ft,az,lT,f1g,f1e,f1h,f1c,f1a,f1b];rfl;kernel_rfl)
        refine a0y (x.ins.length-(k+1)) (by omega) ⟨_,_,?_,inn.set m true,[t0,m],[],none,k+1,rfl,bH,lV,kG,rfl,rfl,lY [] none FlatR.nil (.inl rfl),qK⟩;rw[cnH]
        (simp+decide only[go_sem,a01,a00,a55,a8b,a19,a1u,az,f1b,f1a,f1g]<;>rfl)<;>rfl
    ·obtain rfl:k=x.ins.length:=by omega
     have c2:¬(x.ins.length:Int)<x.ins.length:=by omega
     (repeat first|simp only[ww]|apply xa;simp+decide only[go_sem,c2];rfl;kernel_rfl)
     refine a0y (inn.count false+T.length) hN ⟨_,_,?_,inn,T,J,cap,rfl,by omega,rfl,rfl,⟨hC.len,hC.mark,hC.todo,hC.flat,hC.cap,hC.me,λy hy=>by
      rcases hC.clo y hy with e|e|e|e
      ·exact .inl e
      ·exact .inr (.inl e)
      ·subst e;refine .inr (.inr (.inr λm2 cF=>?_));rw[a1s hx]at cF;obtain⟨j,hj⟩:=List.getElem?_of_mem cF;exact hP j m2 (f1i.1 hj).1 hj
      ·exact .inr (.inr (.inr e))⟩⟩
     rw[cnH]
     (simp+decide only[go_sem,a01,a00,a55,a8b,a19,a1u,iQ,iG]<;>rfl)<;>rfl
theorem b87(c:Cir)(h:c.wf)(a:Nat)(ha:a<c.nodes.length):∃l:List Bool,l.length=c.nodes.length∧(∀b:Nat,l[b]?=some true↔DepOn c.nodes a b)∧∀(d:Bool) (H:a03),cl d 100 [.agg c.enc,.int .i64 a] H=some (.islice (l.map a8f) (some c.nodes.length),H,[]):=by obtain⟨r,⟨l,h1,h2,rfl⟩,h3⟩:=d7r c h a ha;exact⟨l,h1,h2,λd H=>cf (by simp only[a04,a0n,Cir.enc,go_sem]) h3 rfl⟩
def f3s(nodes:List Nd)(md val:Nat)(nd pin be:Int):Prop:=∃n o:Nat,nd=n∧be=o∧((md=1∧o=0∧FltOk nodes ⟨0,n,pin,val,0⟩)∨FltOk nodes ⟨md,n,pin,val,o⟩)
theorem d37(c:Cir)(h:c.wf)(nd p:Int):∃q:Bool,(q=true->∃n:Nat,nd=n∧n<c.nodes.length∧ -1<=p∧p<(a28 c.nodes n).length)∧sM 53 [.agg c.enc,.agg [.int .i64 nd,.int .i64 p]] []=some (.bool q,[]):=by
 by_cases h1:0<=nd
 case neg=>
  refine⟨false,by simp,?_⟩;simp only[Cir.enc]
  (refine sv Tryz.f53 ?_;simp only[Tryz.f53,gS])
  (repeat first|simp only[ww]|apply xa;simp+decide only[go_sem,h1];rfl;kernel_rfl)
  (apply fqb;simp+decide only[go_sem]<;>rfl)
 obtain⟨n,rfl⟩:=Int.eq_ofNat_of_zero_le h1;by_cases h2:(n:Int)<c.nodes.length
 case neg=>
  refine⟨false,by simp,?_⟩;simp only[Cir.enc]
  (refine sv Tryz.f53 ?_;simp only[Tryz.f53,gS])
  (repeat first|simp only[ww]|apply xa;simp+decide only[go_sem,h1,h2];rfl;kernel_rfl)
  (apply fqb;simp+decide only[go_sem]<;>rfl)
 have hn:n<c.nodes.length:=by omega
 obtain⟨x,hx⟩:∃x,c.nodes[n]?=some x:=⟨_,z9e hn⟩
 by_cases h3:-1<=p
 case neg=>
  refine⟨false,by simp,?_⟩;simp only[Cir.enc]
  (refine sv Tryz.f53 ?_;simp only[Tryz.f53,gS])
  (repeat first|simp only[ww]|apply xa;simp+decide only[go_sem,h1,h2,h3];rfl;kernel_rfl)
  (apply fqb;simp+decide only[go_sem]<;>rfl)
 by_cases h4:p<x.ins.length
 ·refine⟨true,λ_=>⟨n,rfl,hn,h3,by rw[a1s hx];exact h4⟩,?_⟩;simp only[Cir.enc]
  (refine sv Tryz.f53 ?_;simp only[Tryz.f53,gS])
  (repeat first|simp only[ww]|apply xa;simp+decide only[go_sem,h1,h2,h3,h4,hn,hx];rfl;kernel_rfl)
  (apply fqb;simp+decide only[go_sem]<;>rfl)
 ·refine⟨false,by simp,?_⟩;simp only[Cir.enc]
  (refine sv Tryz.f53 ?_;simp only[Tryz.f53,gS])
  (repeat first|simp only[ww]|apply xa;simp+decide only[go_sem,h1,h2,h3,h4,hn,hx];rfl;kernel_rfl)
  (apply fqb;simp+decide only[go_sem]<;>rfl)
theorem c98(c:Cir)(h:c.wf)(md val n:Nat)(pin be:Int)(nh:md=2∨md=3)(hn:n<c.nodes.length)(cD:val<=1)(dw:-1<=pin)(cB:pin<(a28 c.nodes n).length) :
 ∃e:Nat,(e=0->∃o:Nat,be=o∧FltOk c.nodes ⟨md,n,pin,val,o⟩)∧sM 54 [.agg c.enc,.agg (fb md n pin val be)] []=some (.int .i64 e,[]):=by
 simp only[Cir.enc];by_cases h1:pin = -1
 case neg=>
  refine⟨1,by omega,?_⟩
  (refine sv Tryz.f54 ?_;simp only[Tryz.f54,gS])
  (repeat first|simp only[ww]|apply xa;simp+decide only[go_sem,h1];rfl;kernel_rfl)
  (apply fqb;simp+decide only[go_sem]<;>rfl)
 subst h1;by_cases h2:be<0
 ·refine⟨1,by omega,?_⟩
  (refine sv Tryz.f54 ?_;simp only[Tryz.f54,gS])
  (repeat first|simp only[ww]|apply xa;simp+decide only[go_sem,h2];rfl;kernel_rfl)
  (apply fqb;simp+decide only[go_sem]<;>rfl)
 obtain⟨o,rfl⟩:=Int.eq_ofNat_of_zero_le (show 0<=be by omega);by_cases h3:(c.nodes.length:Int)<=o
 ·refine⟨1,by omega,?_⟩
  (refine sv Tryz.f54 ?_;simp only[Tryz.f54,gS])
  (repeat first|simp only[ww]|apply xa;simp+decide only[go_sem,h2,h3];rfl;kernel_rfl)
  (apply fqb;simp+decide only[go_sem]<;>rfl)
 have ho:o<c.nodes.length:=by omega
 by_cases h4:(n:Int)=o
 ·refine⟨1,by omega,?_⟩
  (refine sv Tryz.f54 ?_;simp only[Tryz.f54,gS])
  (repeat first|simp only[ww]|apply xa;simp+decide only[go_sem,h2,h3,h4];rfl;kernel_rfl)
  (apply fqb;simp+decide only[go_sem]<;>rfl)
 obtain⟨x,hx⟩:∃x,c.nodes[n]?=some x:=⟨_,z9e hn⟩
 obtain⟨y,hy⟩:∃y,c.nodes[o]?=some y:=⟨_,z9e ho⟩
 obtain⟨l1,s8,qZ,dc⟩:=b87 c h n hn;obtain⟨l2,sZ,qY,eg⟩:=b87 c h o ho;have dc:=dc false;have eg:=eg false;simp only[Cir.enc]at dc eg;have aS:md=2∧(o:Int)<n->sM 54 [.agg (ce c),.agg (fb md n ((-1)) val o)] []=some (.int .i64 (1:Nat),[]):=by
  rintro⟨rfl,h5⟩
  (refine sv Tryz.f54 ?_;simp only[Tryz.f54,gS])
  (repeat first|simp only[ww]|apply xa;simp+decide only[go_sem,h2,h3,h4,h5];rfl;kernel_rfl)
  (apply fqb;simp+decide only[go_sem]<;>rfl)
 by_cases k5:md=2∧(o:Int)<n
 ·exact⟨1,by omega,aS k5⟩
 clear aS;by_cases k6:md=3∧val≠0
 ·obtain⟨rfl,hv⟩:=k6;have h6:¬(val:Int)=0:=by omega
  refine⟨1,by omega,?_⟩
  (refine sv Tryz.f54 ?_;simp only[Tryz.f54,gS])
  (repeat first|simp only[ww]|apply xa;simp+decide only[go_sem,h2,h3,h4,h6];rfl;kernel_rfl)
  (apply fqb;simp+decide only[go_sem]<;>rfl)
 have ji:∀e:Nat,(∃q1 q2:Bool,l1[o]?=some q1∧l2[n]?=some q2∧e=if x.kind=12∨y.kind=12 then 7 else if q1=true∨q2=true then 6 else 0)->
  sM 54 [.agg (ce c),.agg (fb md n ((-1)) val o)] []=some (.int .i64 e,[]):=by
  rintro e ⟨q1,q2,g1,g2,he⟩
  by_cases kx:x.kind=12
  ·have c7:decide ((x.kind:Int)=12)=true:=f4m (by omega);rw[f2w (.inl kx)]at he;subst he;rcases nh with rfl|rfl
   ·have h5:¬(o:Int)<n:=λe=>k5 ⟨rfl,e⟩
    (refine sv Tryz.f54 ?_;simp only[Tryz.f54,gS])
    (repeat first|simp only[ww]|apply xa;simp+decide only[go_sem,h2,h3,h4,h5,hx,hy,hn,ho,c7];rfl;kernel_rfl)
    (apply fqb;simp+decide only[go_sem]<;>rfl)
   ·have h6:val=0:=by by_cases e:val=0;exact e;exact absurd ⟨rfl,e⟩ k6
    subst h6
    (refine sv Tryz.f54 ?_;simp only[Tryz.f54,gS])
    (repeat first|simp only[ww]|apply xa;simp+decide only[go_sem,h2,h3,h4,hx,hy,hn,ho,c7];rfl;kernel_rfl)
    (apply fqb;simp+decide only[go_sem]<;>rfl)
  have c7:¬(x.kind:Int)=12:=by omega
  by_cases ky:y.kind=12
  ·have c8:decide ((y.kind:Int)=12)=true:=f4m (by omega);rw[f2w (.inr ky)]at he;subst he;rcases nh with rfl|rfl
   ·have h5:¬(o:Int)<n:=λe=>k5 ⟨rfl,e⟩
    (refine sv Tryz.f54 ?_;simp only[Tryz.f54,gS])
    (repeat first|simp only[ww]|apply xa;simp+decide only[go_sem,h2,h3,h4,h5,hx,hy,hn,ho,c7,c8];rfl;kernel_rfl)
    (apply fqb;simp+decide only[go_sem]<;>rfl)
   ·have h6:val=0:=by by_cases e:val=0;exact e;exact absurd ⟨rfl,e⟩ k6
    subst h6
    (refine sv Tryz.f54 ?_;simp only[Tryz.f54,gS])
    (repeat first|simp only[ww]|apply xa;simp+decide only[go_sem,h2,h3,h4,hx,hy,hn,ho,c7,c8];rfl;kernel_rfl)
    (apply fqb;simp+decide only[go_sem]<;>rfl)
  have c8:¬(y.kind:Int)=12:=by omega
  rw[f2m (by rintro(e|e);exact kx e;exact ky e)]at he;rcases nh with rfl|rfl
  ·have h5:¬(o:Int)<n:=λe=>k5 ⟨rfl,e⟩;cases q1<;>cases q2<;>simp at he<;>subst he
   all_goals
    (refine sv Tryz.f54 ?_;simp only[Tryz.f54,gS])
    (repeat first|simp only[ww]|apply xa;simp+decide only[go_sem,h2,h3,h4,h5,hx,hy,hn,ho,c7,c8,dc,eg,g1,g2];rfl;kernel_rfl)
    (apply fqb;simp+decide only[go_sem]<;>rfl)
  ·have h6:val=0:=by by_cases e:val=0;exact e;exact absurd ⟨rfl,e⟩ k6
   subst h6;cases q1<;>cases q2<;>simp at he<;>subst he
   all_goals
    (refine sv Tryz.f54 ?_;simp only[Tryz.f54,gS])
    (repeat first|simp only[ww]|apply xa;simp+decide only[go_sem,h2,h3,h4,hx,hy,hn,ho,c7,c8,dc,eg,g1,g2];rfl;kernel_rfl)
    (apply fqb;simp+decide only[go_sem]<;>rfl)
 obtain⟨q1,g1⟩:∃q,l1[o]?=some q:=⟨_,z9e (by omega)⟩
 obtain⟨q2,g2⟩:∃q,l2[n]?=some q:=⟨_,z9e (by omega)⟩
 refine⟨_,?_,ji _ ⟨q1,q2,g1,g2,rfl⟩⟩;intro he;refine⟨o,rfl,?_⟩;split at he
 ·omega
 split at he
 ·omega
 rename_i hk hq;have b3:md=2->n<=o:=λe=>by have:¬(o:Int)<n:=λe2=>k5 ⟨e,e2⟩;omega
 have b4:md=3->val=0:=λe=>by by_cases e2:val=0;exact e2;exact absurd ⟨e,e2⟩ k6
 have b2:n≠o:=λe=>h4 (by rw[e]);have b0:md=0->o=0:=λe=>by omega
 refine⟨.inr nh,hn,⟨dw,cB⟩,cD,ho,b0,λ_=>⟨rfl,b2,b3,b4,by rw[a0x hx];exact λe=>hk (.inl e),by rw[a0x hy];exact λe=>hk (.inr e),λhd=>hq (.inl ?_),λhd=>hq (.inr ?_)⟩⟩
 ·have:=(qZ o).2 hd;rw[g1]at this;exact z9o this
 ·have:=(qY n).2 hd;rw[g2]at this;exact z9o this
theorem c8t(c:Cir)(h:c.wf)(md val:Nat)(nd pin be:Int):∃e:Nat,(e=0->f3s c.nodes md val nd pin be)∧sM 21 [.agg c.enc,.agg (fb md nd pin val be)] []=some (.int .i64 e,[]):=by
 have hv:=λH=>b0f (d:=false) H c h;obtain⟨q,hq,fG⟩:=d37 c h nd pin;have hl:=λH=>a0v (E:=L.env) (ah:=false) (call:=sM) (g:=53) (fs:=[]) (cs:=[]) (ar:=[.agg c.enc,.agg [.int .i64 nd,.int .i64 pin]]) (H:=H) (by kernel_rfl) (by kernel_rfl) rfl (by simp only[f1e,f1b,a04,a0n,Cir.enc,go_sem]) fG rfl;simp only[Cir.enc]at hv hl;by_cases h1:(3:Int)<md
 ·refine⟨1,by omega,?_⟩;simp only[Cir.enc]
  (refine sv Tryz.f21 ?_;simp only[Tryz.f21,gS])
  (repeat first|simp only[ww]|apply xa;simp+decide only[go_sem,hv,h1];rfl;kernel_rfl)
  (apply fqb;simp+decide only[go_sem]<;>rfl)
 by_cases h2:(1:Int)<val
 ·refine⟨1,by omega,?_⟩;simp only[Cir.enc]
  (refine sv Tryz.f21 ?_;simp only[Tryz.f21,gS])
  (repeat first|simp only[ww]|apply xa;simp+decide only[go_sem,hv,h1,h2];rfl;kernel_rfl)
  (apply fqb;simp+decide only[go_sem]<;>rfl)
 cases q with
 |false=>
  refine⟨1,by omega,?_⟩;simp only[Cir.enc]
  (refine sv Tryz.f21 ?_;simp only[Tryz.f21,gS])
  (repeat first|simp only[ww]|apply xa;simp+decide only[go_sem,hv,h1,h2,hl];rfl;kernel_rfl)
  (apply fqb;simp+decide only[go_sem]<;>rfl)
 |true=>
  obtain⟨n,rfl,hn,dw,cB⟩:=hq rfl;by_cases h3:(2:Int)<=md
  ·obtain⟨e,he,ia⟩:=c98 c h md val n pin be (by omega) hn (by omega) dw cB;have hb:=λH=>a0v (E:=L.env) (ah:=false) (call:=sM) (g:=54) (fs:=[]) (cs:=[]) (ar:=[.agg c.enc,.agg (fb md n pin val be)]) (H:=H) (by kernel_rfl) (by kernel_rfl) rfl (by simp only[f1e,f1b,a04,a0n,Cir.enc,go_sem]) ia rfl;refine⟨e,λe0=>?_,?_⟩
   ·obtain⟨o,rfl,hf⟩:=he e0;exact⟨n,o,rfl,rfl,.inr hf⟩
   simp only[Cir.enc]at hb⊢
   (refine sv Tryz.f21 ?_;simp only[Tryz.f21,gS])
   (repeat first|simp only[ww]|apply xa;simp+decide only[go_sem,hv,h1,h2,h3,hl,hb];rfl;kernel_rfl)
   (apply fqb;simp+decide only[go_sem]<;>rfl)
  by_cases h4:be=0
  ·subst h4;refine⟨0,λ_=>⟨n,0,rfl,rfl,?_⟩,?_⟩
   ·have hs:FltOk c.nodes ⟨0,n,pin,val,0⟩:=⟨.inl rfl,hn,⟨dw,cB⟩,by show val<=1;omega,by show 0<c.nodes.length;omega,λ_=>rfl,λe=>absurd rfl e⟩
    by_cases e:md=0
    ·subst e;exact .inr hs
    ·exact .inl ⟨by omega,rfl,hs⟩
   simp only[Cir.enc]
   (refine sv Tryz.f21 ?_;simp only[Tryz.f21,gS])
   (repeat first|simp only[ww]|apply xa;simp+decide only[go_sem,hv,h1,h2,h3,hl];rfl;kernel_rfl)
   (apply fqb;simp+decide only[go_sem]<;>rfl)
  ·refine⟨1,by omega,?_⟩;simp only[Cir.enc]
   (refine sv Tryz.f21 ?_;simp only[Tryz.f21,gS])
   (repeat first|simp only[ww]|apply xa;simp+decide only[go_sem,hv,h1,h2,h3,h4,hl];rfl;kernel_rfl)
   (apply fqb;simp+decide only[go_sem]<;>rfl)
theorem c2a(c:Cir)(h:c.wf)(md val:Nat)(nd pin be:Int):∃e:Nat,(e=0->f3s c.nodes md val nd pin be)∧∀(d:Bool) (H:a03),cl d 21 [.agg c.enc,.agg (fb md nd pin val be)] H=some (.int .i64 e,H,[]):=by obtain⟨e,h1,h2⟩:=c8t c h md val nd pin be;exact⟨e,h1,λd H=>cf (by simp only[f1e,f1b,a04,a0n,Cir.enc,go_sem]) h2 rfl⟩
end Go.UInst
