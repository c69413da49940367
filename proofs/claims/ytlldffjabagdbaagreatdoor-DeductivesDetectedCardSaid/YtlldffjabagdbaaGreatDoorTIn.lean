/- Part of a proof. No condition. -/
import Derived.Test.YtlldffjabagdbaaGreatDoorTLg
import Derived.Test.YtlldffjabagdbaaGreatDoorAxD
import Derived.Test.YtlldffjabagdbaaGreatDoorPcB
set_option linter.unusedSimpArgs false
set_option linter.unusedVariables false
namespace Go.TInst
open Go.Proofs Go.Ax Go.Pc
set_option maxRecDepth 100000
theorem e5o(c:Cir)(X:AObj)(g n:Nat)(q:Int)(hq:q<0):sem L.env Mf 118 [.agg [sl c.nc (c.nodes.map Nd.enc),sl c.mc (c.names.map a13),.nilslice,sl c.oc (c.outs.map a0a)],.agg [.int .i64 n,.int .i64 q],.func (.func g) [] [.ptr 0 0 0]] [some X]=some (.ptr 4 0 0,[some X,some (.row 4 [[sl c.nc (c.nodes.map Nd.enc),sl c.mc (c.names.map a13),.nilslice,sl c.oc (c.outs.map a0a)]]),some (.row 2 [[.int .i64 n,.int .i64 q]]),some (.row 1 [[.func (.func g) [] [.ptr 0 0 0]]]),some (.row 7 [[sl c.nc (c.nodes.map Nd.enc),sl c.mc (c.names.map a13),.nilslice,sl c.oc (c.outs.map a0a),.nilslice,.func (.func 149) [] [.ptr 2 0 0,.ptr 3 0 0],.func (.func 116) [] []]])]):=by
 have hs:AV.storable (.func (.func g) [] [.ptr 0 0 0])=true:=rfl
 (refine sv Tryz.f118 ?_;simp only[Tryz.f118,gS])
 (repeat first|simp only[ww]|(apply xa;simp+decide only[go_sem,hq,hs];rfl;kernel_rfl))
 refine a7j (vs:=[.ptr 4 0 0]) (by simp+decide only[go_sem]) ?_;simp+decide only[go_sem]<;>rfl
theorem e5n(c:Cir)(X:AObj)(g n:Nat)(q:Int)(hq:¬q<0):sem L.env Mf 118 [.agg [sl c.nc (c.nodes.map Nd.enc),sl c.mc (c.names.map a13),.nilslice,sl c.oc (c.outs.map a0a)],.agg [.int .i64 n,.int .i64 q],.func (.func g) [] [.ptr 0 0 0]] [some X]=some (.ptr 4 0 0,[some X,some (.row 4 [[sl c.nc (c.nodes.map Nd.enc),sl c.mc (c.names.map a13),.nilslice,sl c.oc (c.outs.map a0a)]]),some (.row 2 [[.int .i64 n,.int .i64 q]]),some (.row 1 [[.func (.func g) [] [.ptr 0 0 0]]]),some (.row 7 [[sl c.nc (c.nodes.map Nd.enc),sl c.mc (c.names.map a13),.nilslice,sl c.oc (c.outs.map a0a),.nilslice,.func (.func 148) [] [],.func (.func 150) [] [.ptr 2 0 0,.ptr 3 0 0]]])]):=by
 have hs:AV.storable (.func (.func g) [] [.ptr 0 0 0])=true:=rfl
 (refine sv Tryz.f118 ?_;simp only[Tryz.f118,gS])
 (repeat first|simp only[ww]|(apply xa;simp+decide only[go_sem,hq,hs];rfl;kernel_rfl))
 refine a7j (vs:=[.ptr 4 0 0]) (by simp+decide only[go_sem]) ?_;simp+decide only[go_sem]<;>rfl
theorem e5m(c:Cir)(X Y:AObj)(g n:Nat)(q:Int)(hq:q<0):sem L.env Mf 118 [.agg [sl c.nc (c.nodes.map Nd.enc),sl c.mc (c.names.map a13),.nilslice,sl c.oc (c.outs.map a0a)],.agg [.int .i64 n,.int .i64 q],.func (.func g) [] [.ptr 0 0 0,.ptr 1 0 0]] [some X,some Y]=some (.ptr 5 0 0,[some X,some Y,some (.row 4 [[sl c.nc (c.nodes.map Nd.enc),sl c.mc (c.names.map a13),.nilslice,sl c.oc (c.outs.map a0a)]]),some (.row 2 [[.int .i64 n,.int .i64 q]]),some (.row 1 [[.func (.func g) [] [.ptr 0 0 0,.ptr 1 0 0]]]),some (.row 7 [[sl c.nc (c.nodes.map Nd.enc),sl c.mc (c.names.map a13),.nilslice,sl c.oc (c.outs.map a0a),.nilslice,.func (.func 149) [] [.ptr 3 0 0,.ptr 4 0 0],.func (.func 116) [] []]])]):=by
 have hs:AV.storable (.func (.func g) [] [.ptr 0 0 0,.ptr 1 0 0])=true:=rfl
 (refine sv Tryz.f118 ?_;simp only[Tryz.f118,gS])
 (repeat first|simp only[ww]|(apply xa;simp+decide only[go_sem,hq,hs];rfl;kernel_rfl))
 refine a7j (vs:=[.ptr 5 0 0]) (by simp+decide only[go_sem]) ?_;simp+decide only[go_sem]<;>rfl
structure NetN(v:AV)(g:Nat→Nat→Nat):Prop where
 flat:refs v=[]
 sto:v.storable=true
 nn:b2h v=some v
 call:∀(d:Bool) (H:a03) (n w:Nat),a0b L.env d (sem L.env Mf) v [.int .i64 n,.int .u8 w] H=some (.int .u8 (g n w),H,[])
structure PinN(v:AV)(g:Nat→Nat→Nat→Nat):Prop where
 flat:refs v=[]
 sto:v.storable=true
 nn:b2h v=some v
 call:∀(d:Bool) (H:a03) (n p w:Nat),a0b L.env d (sem L.env Mf) v [.int .i64 n,.int .i64 p,.int .u8 w] H=some (.int .u8 (g n p w),H,[])
theorem d8g(n:Int)(w:Nat):sem L.env Mf 148 [.int .i64 n,.int .u8 w] []=some (.int .u8 w,[]):=by
 (refine sv Tryz.f148 ?_;simp only[Tryz.f148,gS])
 (repeat first|simp only[ww]|(apply xa;simp+decide only[go_sem];rfl;kernel_rfl))
 (apply fqb;simp+decide only[go_sem]<;>rfl)
theorem d8i(n p:Int)(w:Nat):sem L.env Mf 116 [.int .i64 n,.int .i64 p,.int .u8 w] []=some (.int .u8 w,[]):=by
 (refine sv Tryz.f116 ?_;simp only[Tryz.f116,gS])
 (repeat first|simp only[ww]|(apply xa;simp+decide only[go_sem];rfl;kernel_rfl))
 (apply fqb;simp+decide only[go_sem]<;>rfl)
theorem f3w:NetN (.func (.func 148) [] []) (λ_ w=>w):=⟨rfl,rfl,rfl,λd H n w=>a04 (by kernel_rfl) (by kernel_rfl) rfl rfl (d8g n w) rfl⟩
theorem e34:PinN (.func (.func 116) [] []) (λ_ _ w=>w):=⟨rfl,rfl,rfl,λd H n p w=>a04 (by kernel_rfl) (by kernel_rfl) rfl rfl (d8i n p w) rfl⟩
theorem nI{a b:Nat}(h:a≠b):¬(a:Int)=b:=by omega
theorem d69(n w a b v:Nat):sem L.env Mf 117 [.int .i64 n,.int .u8 w,.iptr [.int .i64 a],.iptr [.int .i64 b],.iptr [.int .u8 v]] []=some (.int .u8 (if n=a∨n=b then v else w:Nat),[]):=by
 by_cases h1:n=a
 ·subst h1;rw[f6e (.inl rfl)]
  (refine sv Tryz.f117 ?_;simp only[Tryz.f117,gS])
  (repeat first|simp only[ww]|(apply xa;simp+decide only[go_sem];rfl;kernel_rfl))
  (apply fqb;simp+decide only[go_sem]<;>rfl)
 by_cases h2:n=b
 ·subst h2;rw[f6e (.inr rfl)];have h1:=nI h1
  (refine sv Tryz.f117 ?_;simp only[Tryz.f117,gS])
  (repeat first|simp only[ww]|(apply xa;simp+decide only[go_sem,h1];rfl;kernel_rfl))
  (apply fqb;simp+decide only[go_sem]<;>rfl)
 ·rw[f4n (by omega)];have h1:=nI h1;have h2:=nI h2
  (refine sv Tryz.f117 ?_;simp only[Tryz.f117,gS])
  (repeat first|simp only[ww]|(apply xa;simp+decide only[go_sem,h1,h2];rfl;kernel_rfl))
  (apply fqb;simp+decide only[go_sem]<;>rfl)
theorem d1h(w:Nat)(G:List Nat)(b v m:Nat)(hb:G[b]?=some v)(hm:m=G.length):sem L.env Mf 119 [.int .u8 w,.iptr [.islice (G.map u8R) (some m)],.iptr [.int .i64 b]] []=some (.int .u8 v,[]):=by
 have ah:=(c13.1 hb).1
 (refine sv Tryz.f119 ?_;simp only[Tryz.f119,gS])
 (repeat first|simp only[ww]|(apply xa;simp+decide only[go_sem,hb,ah];rfl;kernel_rfl))
 (apply fqb;simp+decide only[go_sem]<;>rfl)
theorem d6k(w:Nat)(f:Flt):sem L.env Mf 120 [.int .u8 w,.iptr [.int .u8 f.model,.int .i64 f.node,.int .i64 f.pin,.int .u8 f.value,.int .i64 f.other]] []=some (.int .u8 f.value,[]):=by
 (refine sv Tryz.f120 ?_;simp only[Tryz.f120,gS])
 (repeat first|simp only[ww]|(apply xa;simp+decide only[go_sem];rfl;kernel_rfl))
 (apply fqb;simp+decide only[go_sem]<;>rfl)
def c8n(fV:AV)(v:Nat):Prop:=refs fV=[]∧∀(d:Bool) (H:a03) (w:Nat),a0b L.env d (sem L.env Mf) fV [.int .u8 w] H=some (.int .u8 v,H,[])
theorem e1o(n w a v:Nat)(q:Int)(fV:AV)(hf:c8n fV v)(az:fV.storable=true):sem L.env Mf 149 [.int .i64 n,.int .u8 w,.iptr [.int .i64 a,.int .i64 q],.iptr [fV]] []=some (.int .u8 (if n=a then v else w:Nat),[]):=by
 have hc:=hf.2;by_cases h1:n=a
 ·subst h1;rw[f6e rfl]
  (refine sv Tryz.f149 ?_;simp only[Tryz.f149,gS])
  (repeat first|simp only[ww]|(apply xa;simp+decide only[go_sem,hc];rfl;kernel_rfl))
  (apply fqb;simp+decide only[go_sem]<;>rfl)
 ·rw[f4n h1];have h1:=nI h1
  (refine sv Tryz.f149 ?_;simp only[Tryz.f149,gS])
  (repeat first|simp only[ww]|(apply xa;simp+decide only[go_sem,h1];rfl;kernel_rfl))
  (apply fqb;simp+decide only[go_sem]<;>rfl)
theorem f02(n p w a v:Nat)(q:Int)(fV:AV)(hf:c8n fV v):sem L.env Mf 150 [.int .i64 n,.int .i64 p,.int .u8 w,.iptr [.int .i64 a,.int .i64 q],.iptr [fV]] []=some (.int .u8 (if n=a∧(p:Int)=q then v else w:Nat),[]):=by
 have hc:=hf.2;by_cases h1:n=a
 ·subst h1;by_cases h2:(p:Int)=q
  ·subst h2;rw[f6e ⟨rfl,rfl⟩]
   (refine sv Tryz.f150 ?_;simp only[Tryz.f150,gS])
   (repeat first|simp only[ww]|(apply xa;simp+decide only[go_sem,hc];rfl;kernel_rfl))
   (apply fqb;simp+decide only[go_sem]<;>rfl)
  ·rw[f4n (λh=>h2 h.2)]
   (refine sv Tryz.f150 ?_;simp only[Tryz.f150,gS])
   (repeat first|simp only[ww]|(apply xa;simp+decide only[go_sem,h2];rfl;kernel_rfl))
   (apply fqb;simp+decide only[go_sem]<;>rfl)
 ·rw[f4n (λh=>h1 h.1)];have h1:=nI h1
  (refine sv Tryz.f150 ?_;simp only[Tryz.f150,gS])
  (repeat first|simp only[ww]|(apply xa;simp+decide only[go_sem,h1];rfl;kernel_rfl))
  (apply fqb;simp+decide only[go_sem]<;>rfl)
theorem e8f(a b k:Nat)(hk:k<16):sem L.env Mf 147 [.int .u8 a,.int .u8 b,.iptr [.int .u8 k]] []=some (.int .u8 (a4d k [a,b]:Nat),[]):=by
 have eh:=λ(d:Bool)=>c39 (d:=d) (H:=[some (.row 1 [[.int .u8 a],[.int .u8 b]])]) (b:=0) k hk [a,b] (by simp) (some 2) [[.int .u8 a],[.int .u8 b]] (λr hr=>by simp at hr;rcases hr with rfl|rfl<;>rfl) rfl rfl (m:=2) rfl;generalize a4d k [a,b]=w at eh
 (refine sv Tryz.f147 ?_;simp only[Tryz.f147,gS])
 (repeat first|simp only[ww]|(apply xa;simp+decide only[go_sem,eh];rfl;kernel_rfl))
 (apply fqb;simp+decide only[go_sem]<;>rfl)
theorem c5e(v:Nat)(k:Nat)(hk:k=if v=1 then 7 else 5):sem L.env Mf 115 [.int .u8 v] []=some (.func (.func 147) [] [.iptr [.int .u8 k]],[]):=by
 subst hk;by_cases h:v=1
 ·have h1:(v:Int)=1:=by omega
  rw[f6e h]
  (refine sv Tryz.f115 ?_;simp only[Tryz.f115,gS])
  (repeat first|simp only[ww]|(apply xa;simp+decide only[go_sem,h1];rfl;kernel_rfl))
  (apply fqb;simp+decide only[go_sem]<;>rfl)
 ·have h1:¬(v:Int)=1:=by omega
  rw[f4n h]
  (refine sv Tryz.f115 ?_;simp only[Tryz.f115,gS])
  (repeat first|simp only[ww]|(apply xa;simp+decide only[go_sem,h1];rfl;kernel_rfl))
  (apply fqb;simp+decide only[go_sem]<;>rfl)
set_option maxHeartbeats 200000000
theorem f04(c:Cir)(f:Flt)(G:List Nat)(hq:f.pin<0):a0b L.env false (sem L.env Mf) (.func (.func 118) [] []) [.agg [sl c.nc (c.nodes.map Nd.enc),sl c.mc (c.names.map a13),.nilslice,sl c.oc (c.outs.map a0a)],.agg [.int .i64 f.node,.int .i64 f.pin],.func (.func 120) [] [.ptr 1 0 0]] [some (.row 4 [[sl c.nc (c.nodes.map Nd.enc),sl c.mc (c.names.map a13),.nilslice,sl c.oc (c.outs.map a0a)]]),some (.row 5 [[.int .u8 f.model,.int .i64 f.node,.int .i64 f.pin,.int .u8 f.value,.int .i64 f.other]]),some (.row 1 [[.islice (G.map u8R) (some c.nodes.length)]]),some (.row 1 [[.int .i64 f.node]]),some (.row 1 [[.int .i64 f.other]])]=some (.ptr 8 0 0,[some (.row 4 [[sl c.nc (c.nodes.map Nd.enc),sl c.mc (c.names.map a13),.nilslice,sl c.oc (c.outs.map a0a)]]),some (.row 5 [[.int .u8 f.model,.int .i64 f.node,.int .i64 f.pin,.int .u8 f.value,.int .i64 f.other]]),some (.row 1 [[.islice (G.map u8R) (some c.nodes.length)]]),some (.row 1 [[.int .i64 f.node]]),some (.row 1 [[.int .i64 f.other]]),some (.row 4 [[sl c.nc (c.nodes.map Nd.enc),sl c.mc (c.names.map a13),.nilslice,sl c.oc (c.outs.map a0a)]]),some (.row 2 [[.int .i64 f.node,.int .i64 f.pin]]),some (.row 1 [[.func (.func 120) [] [.ptr 1 0 0]]]),some (.row 7 [[sl c.nc (c.nodes.map Nd.enc),sl c.mc (c.names.map a13),.nilslice,sl c.oc (c.outs.map a0a),.nilslice,.func (.func 149) [] [.ptr 6 0 0,.ptr 7 0 0],.func (.func 116) [] []]])],[1]):=by have h:=e5o c (.row 5 [[.int .u8 f.model,.int .i64 f.node,.int .i64 f.pin,.int .u8 f.value,.int .i64 f.other]]) 120 f.node f.pin hq;refine a8g (by kernel_rfl) (by kernel_rfl) rfl ((a2m (sem L.env Mf 118) _ [some (.row 4 [[sl c.nc (c.nodes.map Nd.enc),sl c.mc (c.names.map a13),.nilslice,sl c.oc (c.outs.map a0a)]]),some (.row 5 [[.int .u8 f.model,.int .i64 f.node,.int .i64 f.pin,.int .u8 f.value,.int .i64 f.other]]),some (.row 1 [[.islice (G.map u8R) (some c.nodes.length)]]),some (.row 1 [[.int .i64 f.node]]),some (.row 1 [[.int .i64 f.other]])] (σ:=[1]) (by simp+decide only[go_sem]) rfl rfl (by simp+decide only[go_sem]<;>rfl) (by simp+decide only[go_sem]<;>rfl) h).trans ?_);simp+decide only[go_sem]<;>rfl
theorem f03(c:Cir)(f:Flt)(G:List Nat)(hq:¬f.pin<0):a0b L.env false (sem L.env Mf) (.func (.func 118) [] []) [.agg [sl c.nc (c.nodes.map Nd.enc),sl c.mc (c.names.map a13),.nilslice,sl c.oc (c.outs.map a0a)],.agg [.int .i64 f.node,.int .i64 f.pin],.func (.func 120) [] [.ptr 1 0 0]] [some (.row 4 [[sl c.nc (c.nodes.map Nd.enc),sl c.mc (c.names.map a13),.nilslice,sl c.oc (c.outs.map a0a)]]),some (.row 5 [[.int .u8 f.model,.int .i64 f.node,.int .i64 f.pin,.int .u8 f.value,.int .i64 f.other]]),some (.row 1 [[.islice (G.map u8R) (some c.nodes.length)]]),some (.row 1 [[.int .i64 f.node]]),some (.row 1 [[.int .i64 f.other]])]=some (.ptr 8 0 0,[some (.row 4 [[sl c.nc (c.nodes.map Nd.enc),sl c.mc (c.names.map a13),.nilslice,sl c.oc (c.outs.map a0a)]]),some (.row 5 [[.int .u8 f.model,.int .i64 f.node,.int .i64 f.pin,.int .u8 f.value,.int .i64 f.other]]),some (.row 1 [[.islice (G.map u8R) (some c.nodes.length)]]),some (.row 1 [[.int .i64 f.node]]),some (.row 1 [[.int .i64 f.other]]),some (.row 4 [[sl c.nc (c.nodes.map Nd.enc),sl c.mc (c.names.map a13),.nilslice,sl c.oc (c.outs.map a0a)]]),some (.row 2 [[.int .i64 f.node,.int .i64 f.pin]]),some (.row 1 [[.func (.func 120) [] [.ptr 1 0 0]]]),some (.row 7 [[sl c.nc (c.nodes.map Nd.enc),sl c.mc (c.names.map a13),.nilslice,sl c.oc (c.outs.map a0a),.nilslice,.func (.func 148) [] [],.func (.func 150) [] [.ptr 6 0 0,.ptr 7 0 0]]])],[1]):=by have h:=e5n c (.row 5 [[.int .u8 f.model,.int .i64 f.node,.int .i64 f.pin,.int .u8 f.value,.int .i64 f.other]]) 120 f.node f.pin hq;refine a8g (by kernel_rfl) (by kernel_rfl) rfl ((a2m (sem L.env Mf 118) _ [some (.row 4 [[sl c.nc (c.nodes.map Nd.enc),sl c.mc (c.names.map a13),.nilslice,sl c.oc (c.outs.map a0a)]]),some (.row 5 [[.int .u8 f.model,.int .i64 f.node,.int .i64 f.pin,.int .u8 f.value,.int .i64 f.other]]),some (.row 1 [[.islice (G.map u8R) (some c.nodes.length)]]),some (.row 1 [[.int .i64 f.node]]),some (.row 1 [[.int .i64 f.other]])] (σ:=[1]) (by simp+decide only[go_sem]) rfl rfl (by simp+decide only[go_sem]<;>rfl) (by simp+decide only[go_sem]<;>rfl) h).trans ?_);simp+decide only[go_sem]<;>rfl
theorem f05(c:Cir)(f:Flt)(G:List Nat)(hq:f.pin<0):a0b L.env false (sem L.env Mf) (.func (.func 118) [] []) [.agg [sl c.nc (c.nodes.map Nd.enc),sl c.mc (c.names.map a13),.nilslice,sl c.oc (c.outs.map a0a)],.agg [.int .i64 f.node,.int .i64 f.pin],.func (.func 119) [] [.ptr 2 0 0,.ptr 4 0 0]] [some (.row 4 [[sl c.nc (c.nodes.map Nd.enc),sl c.mc (c.names.map a13),.nilslice,sl c.oc (c.outs.map a0a)]]),some (.row 5 [[.int .u8 f.model,.int .i64 f.node,.int .i64 f.pin,.int .u8 f.value,.int .i64 f.other]]),some (.row 1 [[.islice (G.map u8R) (some c.nodes.length)]]),some (.row 1 [[.int .i64 f.node]]),some (.row 1 [[.int .i64 f.other]])]=some (.ptr 8 0 0,[some (.row 4 [[sl c.nc (c.nodes.map Nd.enc),sl c.mc (c.names.map a13),.nilslice,sl c.oc (c.outs.map a0a)]]),some (.row 5 [[.int .u8 f.model,.int .i64 f.node,.int .i64 f.pin,.int .u8 f.value,.int .i64 f.other]]),some (.row 1 [[.islice (G.map u8R) (some c.nodes.length)]]),some (.row 1 [[.int .i64 f.node]]),some (.row 1 [[.int .i64 f.other]]),some (.row 4 [[sl c.nc (c.nodes.map Nd.enc),sl c.mc (c.names.map a13),.nilslice,sl c.oc (c.outs.map a0a)]]),some (.row 2 [[.int .i64 f.node,.int .i64 f.pin]]),some (.row 1 [[.func (.func 119) [] [.ptr 2 0 0,.ptr 4 0 0]]]),some (.row 7 [[sl c.nc (c.nodes.map Nd.enc),sl c.mc (c.names.map a13),.nilslice,sl c.oc (c.outs.map a0a),.nilslice,.func (.func 149) [] [.ptr 6 0 0,.ptr 7 0 0],.func (.func 116) [] []]])],[2,4]):=by have h:=e5m c (.row 1 [[.islice (G.map u8R) (some c.nodes.length)]]) (.row 1 [[.int .i64 f.other]]) 119 f.node f.pin hq;refine a8g (by kernel_rfl) (by kernel_rfl) rfl ((a2m (sem L.env Mf 118) _ [some (.row 4 [[sl c.nc (c.nodes.map Nd.enc),sl c.mc (c.names.map a13),.nilslice,sl c.oc (c.outs.map a0a)]]),some (.row 5 [[.int .u8 f.model,.int .i64 f.node,.int .i64 f.pin,.int .u8 f.value,.int .i64 f.other]]),some (.row 1 [[.islice (G.map u8R) (some c.nodes.length)]]),some (.row 1 [[.int .i64 f.node]]),some (.row 1 [[.int .i64 f.other]])] (σ:=[2,4]) (by simp+decide only[go_sem]) rfl rfl (by simp+decide only[go_sem]<;>rfl) (by simp+decide only[go_sem]<;>rfl) h).trans ?_);simp+decide only[go_sem]<;>rfl
def b3o(c:Cir)(nets net pin:AV):AObj:=.row 7 [[sl c.nc (c.nodes.map Nd.enc),sl c.mc (c.names.map a13),.nilslice,sl c.oc (c.outs.map a0a),nets,net,pin]]
theorem d4g(c:Cir)(f:Flt)(hf:FltOk c.nodes f)(G:List Nat)(hG:G.length=c.nodes.length)(mQ:∀v∈G,v≤3):∃net pin,NetN net (hkF f (a18 nAlg G f)).net∧PinN pin (hkF f (a18 nAlg G f)).pin∧
 sem L.env Mf 76 [.agg [sl c.nc (c.nodes.map Nd.enc),sl c.mc (c.names.map a13),.nilslice,sl c.oc (c.outs.map a0a)],.agg [.int .u8 f.model,.int .i64 f.node,.int .i64 f.pin,.int .u8 f.value,.int .i64 f.other],.islice (G.map u8R) (some c.nodes.length)] []=some (.ptr 0 0 0,[some (b3o c .nilslice net pin)]):=by
 rcases hf.model with hm|hm|hm
 · -- stuck
  have hv:a18 nAlg G f=f.value:=by unfold a18;rw[f6e hm];rfl
  have m0:¬(f.model:Int)=2:=by omega
  have m1:¬(f.model:Int)=3:=by omega
  have hc:c8n (.func (.func 120) [] [.iptr [.int .u8 f.model,.int .i64 f.node,.int .i64 f.pin,.int .u8 f.value,.int .i64 f.other]]) f.value:=⟨rfl,λd H w=>a04 (by kernel_rfl) (by kernel_rfl) rfl rfl (d6k w f) rfl⟩
  rw[hv];by_cases hq:f.pin<0
  ·have bg:=f04 c f G hq;refine⟨.func (.func 149) [] [.iptr [.int .i64 f.node,.int .i64 f.pin],.iptr [.func (.func 120) [] [.iptr [.int .u8 f.model,.int .i64 f.node,.int .i64 f.pin,.int .u8 f.value,.int .i64 f.other]]]],.func (.func 116) [] [],⟨rfl,rfl,rfl,λd H n w=>?_⟩,?_,?_⟩
   ·have h1:=a04 (E:=L.env) (ag:=d) (call:=sem L.env Mf) (H:=H) (g:=149) (fs:=[]) (ar:=[.int .i64 n,.int .u8 w]) (cs:=[.iptr [.int .i64 f.node,.int .i64 f.pin],.iptr [.func (.func 120) [] [.iptr [.int .u8 f.model,.int .i64 f.node,.int .i64 f.pin,.int .u8 f.value,.int .i64 f.other]]]]) (by kernel_rfl) (by kernel_rfl) rfl rfl (e1o n w f.node f.value f.pin _ hc rfl) rfl;rw[h1];have:(if n=f.node then f.value else w)=(hkF f f.value).net n w:=by
     unfold hkF Flt.hitsNet;have h2:¬f.model=2:=by omega
     simp[hq,h2]
    rw[this]
   ·have:(hkF f f.value).pin=λ_ _ w=>w:=by
     funext n p w;unfold hkF Flt.hitsPin
     have:¬0≤f.pin:=by omega
     simp[this]
    rw[this];exact e34
   ·(refine sv Tryz.f76 ?_;simp only[Tryz.f76,gS])
    (repeat first|simp only[ww]|(apply xa;simp+decide only[go_sem,m0,m1,bg];rfl;kernel_rfl))
    refine a7j (vs:=[.ptr 8 0 0]) (by simp+decide only[go_sem]) ?_;unfold b3o;simp+decide only[go_sem]<;>rfl
  ·have bg:=f03 c f G hq;refine⟨.func (.func 148) [] [],.func (.func 150) [] [.iptr [.int .i64 f.node,.int .i64 f.pin],.iptr [.func (.func 120) [] [.iptr [.int .u8 f.model,.int .i64 f.node,.int .i64 f.pin,.int .u8 f.value,.int .i64 f.other]]]],?_,⟨rfl,rfl,rfl,λd H n p w=>?_⟩,?_⟩
   ·have:(hkF f f.value).net=λ_ w=>w:=by
     funext n w;unfold hkF Flt.hitsNet
     simp[hq]
    rw[this];exact f3w
   ·have h1:=a04 (E:=L.env) (ag:=d) (call:=sem L.env Mf) (H:=H) (g:=150) (fs:=[]) (ar:=[.int .i64 n,.int .i64 p,.int .u8 w]) (cs:=[.iptr [.int .i64 f.node,.int .i64 f.pin],.iptr [.func (.func 120) [] [.iptr [.int .u8 f.model,.int .i64 f.node,.int .i64 f.pin,.int .u8 f.value,.int .i64 f.other]]]]) (by kernel_rfl) (by kernel_rfl) rfl rfl (f02 n p w f.node f.value f.pin _ hc) rfl;rw[h1];have:(if n=f.node∧(p:Int)=f.pin then f.value else w)=(hkF f f.value).pin n p w:=by
     unfold hkF Flt.hitsPin;have:0≤f.pin:=by omega
     simp[this]
    rw[this]
   ·(refine sv Tryz.f76 ?_;simp only[Tryz.f76,gS])
    (repeat first|simp only[ww]|(apply xa;simp+decide only[go_sem,m0,m1,bg];rfl;kernel_rfl))
    refine a7j (vs:=[.ptr 8 0 0]) (by simp+decide only[go_sem]) ?_;unfold b3o;simp+decide only[go_sem]<;>rfl
 · -- wired
  have hb:=hf.bridge (by omega);have m0:(f.model:Int)=2:=by omega
  obtain⟨va,je⟩:∃v,G[f.node]?=some v:=⟨_,z9e (by rw[hG];exact hf.node)⟩
  obtain⟨vb,kf⟩:∃v,G[f.other]?=some v:=⟨_,z9e (by rw[hG];exact hf.other)⟩
  obtain⟨k,hk⟩:∃k,k=if f.value=1 then 7 else 5:=⟨_,rfl⟩
  have dw:k<16:=by rw[hk];split<;>omega
  have hv:a18 nAlg G f=a4d k [va,vb]:=by
   have h1:¬f.model=0:=by omega
   have h2:¬f.model=3:=by omega
   have h3:=hf.value;have e:∀k,nAlg.ev k [G.getD f.node nAlg.z,G.getD f.other nAlg.z]=a4d k [va,vb]:=λk=>by
    show a4d k (([G.getD f.node 0,G.getD f.other 0]:List Nat).map a2i)=_;rw[List.getD,je,List.getD,kf]
    congr 1
    exact a9v (λv hv=>by simp at hv;rcases hv with rfl|rfl;exact mQ _ (c11 je);exact mQ _ (c11 kf))
   unfold a18;rw[f4n h1,f4n h2];by_cases h4:f.value=0
   ·rw[f6e h4,e,hk,f4n (by omega)]
   ·rw[f4n h4,e,hk,f6e (by omega)]
  have gm:=λ(d:Bool) (H:a03)=>a04 (E:=L.env) (ag:=d) (call:=sem L.env Mf) (H:=H) (g:=115) (fs:=[]) (ar:=[.int .u8 f.value]) (cs:=[]) (by kernel_rfl) (by kernel_rfl) rfl rfl (c5e f.value k hk) rfl;have sO:=λ(d:Bool) (H:a03)=>a04 (E:=L.env) (ag:=d) (call:=sem L.env Mf) (H:=H) (g:=147) (fs:=[]) (ar:=[.int .u8 va,.int .u8 vb]) (cs:=[.iptr [.int .u8 k]]) (by kernel_rfl) (by kernel_rfl) rfl rfl (e8f va vb k dw) rfl;rw[hv];generalize a4d k [va,vb]=w0 at sO⊢;have cj:=hf.node;have fW:=hf.other;refine⟨.func (.func 117) [] [.iptr [.int .i64 f.node],.iptr [.int .i64 f.other],.iptr [.int .u8 w0]],.func (.func 116) [] [],⟨rfl,rfl,rfl,λd H n w=>?_⟩,?_,?_⟩
  ·have h1:=a04 (E:=L.env) (ag:=d) (call:=sem L.env Mf) (H:=H) (g:=117) (fs:=[]) (ar:=[.int .i64 n,.int .u8 w]) (cs:=[.iptr [.int .i64 f.node],.iptr [.int .i64 f.other],.iptr [.int .u8 w0]]) (by kernel_rfl) (by kernel_rfl) rfl rfl (d69 n w f.node f.other w0) rfl;rw[h1];have:(if n=f.node∨n=f.other then w0 else w)=(hkF f w0).net n w:=by
    unfold hkF Flt.hitsNet;simp[hb.1,hm]
   rw[this]
  ·have:(hkF f w0).pin=λ_ _ w=>w:=by
    funext n p w;unfold hkF Flt.hitsPin
    simp[hb.1]
   rw[this];exact e34
  ·(refine sv Tryz.f76 ?_;simp only[Tryz.f76,gS])
   (repeat first|simp only[ww]|(apply xa;simp+decide only[go_sem,m0,gm,sO,je,kf,hG,cj,fW];rfl;kernel_rfl))
   refine a7j (vs:=[.ptr 6 0 0]) (by simp+decide only[go_sem]) ?_;unfold b3o;simp+decide only[go_sem]<;>rfl
 · -- strong
  have hb:=hf.bridge (by omega);have hq:f.pin<0:=by rw[hb.1];decide
  have m0:¬(f.model:Int)=2:=by omega
  have m1:(f.model:Int)=3:=by omega
  obtain⟨vb,kf⟩:∃v,G[f.other]?=some v:=⟨_,z9e (by rw[hG];exact hf.other)⟩
  have hv:a18 nAlg G f=vb:=by unfold a18;rw[f4n (by omega),f6e hm,List.getD,kf];rfl
  have bg:=f05 c f G hq;rw[m1]at bg;have hc:c8n (.func (.func 119) [] [.iptr [.islice (G.map u8R) (some c.nodes.length)],.iptr [.int .i64 f.other]]) vb:=⟨rfl,λd H w=>a04 (by kernel_rfl) (by kernel_rfl) rfl rfl (d1h w G f.other vb c.nodes.length kf hG.symm) rfl⟩
  rw[hv];refine⟨.func (.func 149) [] [.iptr [.int .i64 f.node,.int .i64 f.pin],.iptr [.func (.func 119) [] [.iptr [.islice (G.map u8R) (some c.nodes.length)],.iptr [.int .i64 f.other]]]],.func (.func 116) [] [],⟨rfl,rfl,rfl,λd H n w=>?_⟩,?_,?_⟩
  ·have h1:=a04 (E:=L.env) (ag:=d) (call:=sem L.env Mf) (H:=H) (g:=149) (fs:=[]) (ar:=[.int .i64 n,.int .u8 w]) (cs:=[.iptr [.int .i64 f.node,.int .i64 f.pin],.iptr [.func (.func 119) [] [.iptr [.islice (G.map u8R) (some c.nodes.length)],.iptr [.int .i64 f.other]]]]) (by kernel_rfl) (by kernel_rfl) rfl rfl (e1o n w f.node vb f.pin _ hc rfl) rfl;rw[h1];have:(if n=f.node then vb else w)=(hkF f vb).net n w:=by
    unfold hkF Flt.hitsNet;have h2:¬f.model=2:=by omega
    simp[hq,h2]
   rw[this]
  ·have:(hkF f vb).pin=λ_ _ w=>w:=by
    funext n p w;unfold hkF Flt.hitsPin
    have:¬0≤f.pin:=by omega
    simp[this]
   rw[this];exact e34
  ·(refine sv Tryz.f76 ?_;simp only[Tryz.f76,gS])
   (repeat first|simp only[ww]|(apply xa;simp+decide only[go_sem,m0,m1,bg];rfl;kernel_rfl))
   refine a7j (vs:=[.ptr 8 0 0]) (by simp+decide only[go_sem]) ?_;unfold b3o;simp+decide only[go_sem]<;>rfl
attribute [go_sem] b3o
theorem e9e{m:Nat}{d:AV→Option AV}(l:List Nat):a9g m d (l.map u8R)=some (l.map u8R):=a12 m d (a1r l)
theorem d3l(c:Cir)(hc:c.wf)(net pin:AV)(g:Hk Nat)(h1:refs net=[])(h2:PinN pin g.pin)(nets:List Nat)(hl:nets.length=c.nodes.length)(n:Nat)(hn:n<c.nodes.length) :
 sem L.env Mf 122 [.ptr 0 0 0,.int .i64 n] [some (b3o c (.slice 1 0 c.nodes.length (some c.nodes.length)) net pin),some (.row 1 (nets.map u8R))]=some (sl none ((a0n nAlg c.nodes g nets n).map u8R),[some (b3o c (.slice 1 0 c.nodes.length (some c.nodes.length)) net pin),some (.row 1 (nets.map u8R))]):=by
 have cG:=hc.len;obtain⟨x,hx⟩:∃x,c.nodes[n]?=some x:=⟨_,z9e hn⟩
 have dK:=c11 hx;have cM:=hc.insl dK;have dM:(a0n nAlg c.nodes g nets n).length=x.ins.length:=by rw[a2r,a1c hx]
 have h3:=h2.flat;have e1:∀π,ren π net=net:=λπ=>a14 π _ h1;have e2:∀π,ren π pin=pin:=λπ=>a14 π _ h3;have fK:=h2.call;unfold b3o
 (refine sv Tryz.f122 ?_;simp only[Tryz.f122,gS])
 (repeat first|simp only[ww]|(apply xa;simp+decide only[go_sem,hx,hn];rfl;kernel_rfl))
 refine a0q (σ:=Nat) kp122_0 (λi=>[(0,.ptr 0 0 0),(1,.int .i64 n),(5,grV 2 (((a0n nAlg c.nodes g nets n).take i).map u8R)),(16,sl x.c (x.ins.map a0a)),(17,.int .i64 x.ins.length),(18,.int .i64 i)])
  (λi=>[some (.row 7 [[sl c.nc (c.nodes.map Nd.enc),sl c.mc (c.names.map a13),.nilslice,sl c.oc (c.outs.map a0a),.slice 1 0 c.nodes.length (some c.nodes.length),net,pin]]),some (.row 1 (nets.map u8R))]++grH 1 (((a0n nAlg c.nodes g nets n).take i).map u8R)) (λi=>x.ins.length-i) (λi=>i≤x.ins.length) 0 ?_ (f4m _) ?_
 ·(simp+decide only[go_sem,a02,a00,f6b,f4h,a0g,a0h,h1,h3,e1,e2,a37,a3k]<;>rfl)
 ·intro i hi;by_cases ah:i<x.ins.length
  ·obtain⟨m,hm⟩:∃m,x.ins[i]?=some m:=⟨_,z9e ah⟩
   have dY:=hc.ins x dK m (c11 hm);obtain⟨w,hw⟩:∃w,nets[m]?=some w:=⟨_,z9e (by omega)⟩
   have c1:(i:Int)<x.ins.length:=by omega
   have bz:=wI1 (n:=i) (by omega);have hs:=b32 (A:=nAlg) (h:=g) (nets:=nets) (by rw[a1c hx];exact hm) hw;have bJ:((a0n nAlg c.nodes g nets n).take i).length=i:=by rw[f9f];omega
   generalize(a0n nAlg c.nodes g nets n).take i=T at hs bJ;cases T with
   |nil=>
    (repeat first|simp only[ww]|(apply xa;simp+decide only[go_sem,c1,ah,hm,dY,hw,bz,fK,hl,f4h,a0g,a0h];rfl;kernel_rfl))
    refine a21 (i+1) ?_ (by omega) (by omega);rw[hs]
    (simp+decide only[go_sem,a02,a00,c10,f4h,e14,a05,a06,f4o,h1,h3,e1,e2,a37,a3k]<;>rfl)
   |cons a r=>
    simp only[e12]at bJ;have aE:r.length+1+1≤1000000000:=by omega
    (repeat first|simp only[ww]|(apply xa;simp+decide only[go_sem,c1,ah,hm,dY,hw,bz,fK,hl,c10,a05,a06,aE,e12];rfl;kernel_rfl))
    refine a21 (i+1) ?_ (by omega) (by omega);rw[hs]
    (simp+decide only[go_sem,a02,a00,c10,f4h,f6a,a05,a06,e12,h1,h3,e1,e2,a37,a3k]<;>rfl)
  ·obtain rfl:i=x.ins.length:=by omega
   have c1:¬(x.ins.length:Int)<x.ins.length:=by omega
   rw[f4l (by omega)];generalize a0n nAlg c.nodes g nets n=T;cases T with
   |nil=>
    (repeat first|simp only[ww]|(apply xa;simp+decide only[go_sem,c1,f4h,a0g,a0h];rfl;kernel_rfl))
    (apply fqb;simp+decide only[go_sem,a3k,f4h,e1,e2]<;>rfl)
   |cons a r=>
    (repeat first|simp only[ww]|(apply xa;simp+decide only[go_sem,c1,c10,a05,a06];rfl;kernel_rfl))
    (apply fqb;simp+decide only[go_sem,a3k,e9e,c10,a6c,e1,e2]<;>rfl)
theorem c87(c:Cir)(net pin:AV)(h1:refs net=[])(h2:refs pin=[]):a0x (some (b3o c (.slice 1 0 c.nodes.length (some c.nodes.length)) net pin))=[1]:=by simp+decide only[go_sem,h1,h2]
theorem c1l(c:Cir)(net pin:AV)(h1:refs net=[])(h2:refs pin=[])(π:Nat→Option Nat)(hπ:π 1=some 1):a0t π (b3o c (.slice 1 0 c.nodes.length (some c.nodes.length)) net pin)=b3o c (.slice 1 0 c.nodes.length (some c.nodes.length)) net pin:=by have e1:∀π,ren π net=net:=λπ=>a14 π _ h1;have e2:∀π,ren π pin=pin:=λπ=>a14 π _ h2;simp+decide only[go_sem,e1,e2,hπ]
theorem b6j{d:Bool}(R:a03)(c:Cir)(hc:c.wf)(net pin:AV)(g:Hk Nat)(h1:refs net=[])(h2:PinN pin g.pin)(nets:List Nat)(hl:nets.length=c.nodes.length)(n:Nat)(hn:n<c.nodes.length) :
 a0b L.env d (sem L.env Mf) (.func (.func 122) [] []) [.ptr 0 0 0,.int .i64 n] (some (b3o c (.slice 1 0 c.nodes.length (some c.nodes.length)) net pin)::some (.row 1 (nets.map u8R))::R)=some (sl none ((a0n nAlg c.nodes g nets n).map u8R),some (b3o c (.slice 1 0 c.nodes.length (some c.nodes.length)) net pin)::some (.row 1 (nets.map u8R))::R,[0,1]):=
 c8e (by kernel_rfl) (by kernel_rfl) rfl rfl (c87 c net pin h1 h2.flat) (a0r (a1r nets)) rfl (c1l c net pin h1 h2.flat _ rfl) (λn=>c1l c net pin h1 h2.flat _ rfl) (FlatO.row (a1r nets)) (d3l c hc net pin g h1 h2 nets hl n hn) (a2w _ _)
theorem d8j(c:Cir)(hc:c.wf)(net pin:AV)(g:Hk Nat)(h1:refs net=[])(h2:PinN pin g.pin)(nets:List Nat)(hl:nets.length=c.nodes.length)(n:Nat)(hn:n<c.nodes.length)(hv:∀v∈a0n nAlg c.nodes g nets n,v≤3) :
 sem L.env Mf 121 [.ptr 0 0 0,.int .i64 n] [some (b3o c (.slice 1 0 c.nodes.length (some c.nodes.length)) net pin),some (.row 1 (nets.map u8R))]=some (.int .u8 (nAlg.ev (a0e c.nodes n) (a0n nAlg c.nodes g nets n):Nat),[some (b3o c (.slice 1 0 c.nodes.length (some c.nodes.length)) net pin),some (.row 1 (nets.map u8R))]):=by
 have cG:=hc.len;obtain⟨x,hx⟩:∃x,c.nodes[n]?=some x:=⟨_,z9e hn⟩
 have dK:=c11 hx;have cM:=hc.insl dK;have k14:=hc.kind x dK;have dM:(a0n nAlg c.nodes g nets n).length=x.ins.length:=by rw[a2r,a1c hx]
 have h3:=h2.flat;have e1:∀π,ren π net=net:=λπ=>a14 π _ h1;have e2:∀π,ren π pin=pin:=λπ=>a14 π _ h3;have dp:=λ(d:Bool)=>b6j (d:=d) [] c hc net pin g h1 h2 nets hl n hn;have eh:=λ(d:Bool)=>c9j (V:=sl none ((a0n nAlg c.nodes g nets n).map u8R)) (.imm none) (by omega) (d:=d) x.kind (by omega);have he:nAlg.ev (a0e c.nodes n) (a0n nAlg c.nodes g nets n)=a4d x.kind (a0n nAlg c.nodes g nets n):=by rw[a0y hx];show a4d x.kind ((a0n nAlg c.nodes g nets n).map a2i)=_;rw[a9v hv]
 rw[he];have eh:∀(d:Bool) (H:a03),a0b L.env d (sem L.env Mf) (.func (.func 25) [] []) [.int .u8 x.kind,sl none ((a0n nAlg c.nodes g nets n).map u8R)] H=some (.int .u8 (a4d x.kind (a0n nAlg c.nodes g nets n):Nat),H,[]):=λd H=>a04 (by kernel_rfl) (by kernel_rfl) rfl (by simp only[e14,f4g,go_sem]) (b1x x.kind (by omega) _ _ _ (.imm none) (by omega)) rfl;generalize a4d x.kind (a0n nAlg c.nodes g nets n)=w at eh⊢;generalize(a0n nAlg c.nodes g nets n).map u8R=R at dp eh;unfold b3o at dp⊢
 (refine sv Tryz.f121 ?_;simp only[Tryz.f121,gS])
 (repeat first|simp only[ww]|(apply xa;simp+decide only[go_sem,hx,hn,dp,eh];rfl;kernel_rfl))
 (apply fqb;simp+decide only[go_sem,a3k,e1,e2]<;>rfl)
theorem c9r{d:Bool}(R:a03)(c:Cir)(hc:c.wf)(net pin:AV)(g:Hk Nat)(h1:refs net=[])(h2:PinN pin g.pin)(nets:List Nat)(hl:nets.length=c.nodes.length)(n:Nat)(hn:n<c.nodes.length)(hv:∀v∈a0n nAlg c.nodes g nets n,v≤3) :
 a0b L.env d (sem L.env Mf) (.func (.func 121) [.ptr 0 0 0] []) [.int .i64 n] (some (b3o c (.slice 1 0 c.nodes.length (some c.nodes.length)) net pin)::some (.row 1 (nets.map u8R))::R)=some (.int .u8 (nAlg.ev (a0e c.nodes n) (a0n nAlg c.nodes g nets n):Nat),some (b3o c (.slice 1 0 c.nodes.length (some c.nodes.length)) net pin)::some (.row 1 (nets.map u8R))::R,[0,1]):=
 c8e (by kernel_rfl) (by kernel_rfl) rfl rfl (c87 c net pin h1 h2.flat) (a0r (a1r nets)) rfl (c1l c net pin h1 h2.flat _ rfl) (λn=>c1l c net pin h1 h2.flat _ rfl) (FlatO.row (a1r nets)) (d8j c hc net pin g h1 h2 nets hl n hn hv) rfl
def b1j(c:Cir)(ord:List Nat)(g:Hk Nat)(p:Pat):List Nat:=b4n nAlg c.nodes g ord (kinds c.nodes 0) (kinds c.nodes 14) p.ins p.sts
def f4e(k:Nat):List Nat→AV
 | []=>.nilslice
 |_::r=>.slice k 0 (r.length+1) (some (r.length+1))
theorem e46(c:Cir)(hc:c.wf)(hO:c.outs≠[])(p:Pat)(hp:PatOk c.nodes p)(ord:List Nat)(aR:OrdOf c ord)(net pin:AV)(g:Hk Nat)(h1:NetN net g.net)(h2:PinN pin g.pin)(hg:e0f g) :
 ∃r:AV×a03,(∃X2 X3:Option AObj,r=(.agg [.slice 4 0 c.outs.length (some c.outs.length),f4e 5 (a8s c.nodes g (b1j c ord g p) (kinds c.nodes 14))],[some (.row 7 [[sl c.nc (c.nodes.map Nd.enc),sl c.mc (c.names.map a13),.nilslice,sl c.oc (c.outs.map a0a),.slice 1 0 c.nodes.length (some c.nodes.length),net,pin]]),some (.row 1 ((b1j c ord g p).map u8R)),X2,X3,some (.row 1 ((a1q c.outs (b1j c ord g p)).map u8R))]++grH 1 ((a8s c.nodes g (b1j c ord g p) (kinds c.nodes 14)).map u8R)))∧sem L.env Mf 77 [.ptr 0 0 0,.agg [sl p.ic (p.ins.map u8R),sl p.sc (p.sts.map u8R)]] [some (b3o c .nilslice net pin)]=some r:=by
 have cG:=hc.len;have bW:=hc.outl;have aE:c.nodes.length≤1000000000:=by omega
 obtain⟨r0,e3⟩:=a3b (kinds c.nodes 0);obtain⟨r1,e4⟩:=a3b (kinds c.nodes 14);have hk0:=a3h c.nodes 0;have gp:=a3h c.nodes 14;have hi:=λ(d:Bool) H=>a8x (d:=d) H c (by omega);have hs:=λ(d:Bool) H=>a5w (d:=d) H c (by omega);rw[e3]at hi;rw[e4]at hs;have ho:=aR.call;simp only[Cir.enc]at hi hs ho;have cw:∀n∈ord,n<c.nodes.length:=λn hn=>by have:=aR.perm.mem_iff.1 hn;simpa using this
 have sR:ord.length=c.nodes.length:=by rw[aR.perm.length_eq];simp
 have ke:=hp.ins;have fF:=hp.sts;have n3:=h1.flat;have p3:=h2.flat;have n4:=h1.sto;have p4:=h2.sto;have e1:∀π,ren π net=net:=λπ=>a14 π _ n3;have e2:∀π,ren π pin=pin:=λπ=>a14 π _ p3;have ji:=h1.call;have hB:b1j c ord g p=ord.foldl (Pc.stepG nAlg c.nodes g) (a1l (a1l (List.replicate c.nodes.length 0) (kinds c.nodes 0) p.ins) (kinds c.nodes 14) p.sts):=rfl;rw[hB];have m4:(List.replicate c.nodes.length 0).map u8R=List.replicate c.nodes.length [AV.int .u8 0]:=by rw[List.map_replicate];rfl
 have im:∀v∈a1l (a1l (List.replicate c.nodes.length 0) (kinds c.nodes 0) p.ins) (kinds c.nodes 14) p.sts,v≤3:=b68 _ _ _ (b68 _ _ _ (λv hv=>by rw[f9u hv];omega) hp.inv) hp.stv;unfold b3o
 (refine svE Tryz.f77 ?_;simp only[Tryz.f77,gS])
 (repeat first|simp only[ww]|(apply xa;simp+decide only[go_sem,aE,hs,hi,n4,p4];rfl;kernel_rfl))
 refine a0q (σ:=Nat) kp77_0 (λi=>[(0,.ptr 0 0 0),(3,.ptr 2 0 0),(4,.ptr 3 0 0),(5,sl r1 ((kinds c.nodes 14).map a0a)),(41,sl r0 ((kinds c.nodes 0).map a0a)),(42,.int .i64 (kinds c.nodes 0).length),(43,.int .i64 i)])
  (λi=>[some (.row 7 [[sl c.nc (c.nodes.map Nd.enc),sl c.mc (c.names.map a13),.nilslice,sl c.oc (c.outs.map a0a),.slice 1 0 c.nodes.length (some c.nodes.length),net,pin]]),some (.row 1 ((a1l (List.replicate c.nodes.length 0) ((kinds c.nodes 0).take i) (p.ins.take i)).map u8R)),some (.row 2 [[sl p.ic (p.ins.map u8R),sl p.sc (p.sts.map u8R)]]),some (.row 2 [[.nilslice,.nilslice]])]) (λi=>(kinds c.nodes 0).length-i) (λi=>i≤(kinds c.nodes 0).length) 0 ?_ (f4m _) ?_
 ·rw[f6b,f6b,show a1l (List.replicate c.nodes.length 0) [] []=(List.replicate c.nodes.length 0)from rfl,m4]
  (simp+decide only[go_sem,a02,a00,a3k,a37,n3,p3,e1,e2]<;>rfl)<;>rfl
 ·intro i i5;have aQ:=a2g ((kinds c.nodes 0).take i) (p.ins.take i) (List.replicate c.nodes.length 0);rw[List.length_replicate]at aQ;by_cases ah:i<(kinds c.nodes 0).length
  ·obtain⟨n,hn⟩:∃n,(kinds c.nodes 0)[i]?=some n:=⟨_,z9e ah⟩
   obtain⟨w,hw⟩:∃w,p.ins[i]?=some w:=⟨_,z9e (by omega)⟩
   have bp:=(a5i hn).1;have az:=a6u (nets:=(List.replicate c.nodes.length 0)) hn hw;have c1:(i:Int)<(kinds c.nodes 0).length:=by omega
   have bz:=wI1 (n:=i) (by omega);have eI:i<p.ins.length:=by omega
   generalize a1l (List.replicate c.nodes.length 0) ((kinds c.nodes 0).take i) (p.ins.take i)=N at az aQ;obtain⟨w0,bM⟩:∃w,N[n]?=some w:=⟨_,z9e (by omega)⟩
   have jD:(N.map u8R).set n [AV.int .u8 w]=(N.set n w).map u8R:=by rw[f9n];rfl
   (repeat first|simp only[ww]|(apply xa;simp+decide only[go_sem,c1,ah,hn,hw,bp,bz,eI,aQ,bM,jD];rfl;kernel_rfl))
   refine a21 (i+1) ?_ (by omega) (by omega);rw[az]
   (simp+decide only[go_sem,a02,a00,a3k,a37,n3,p3,e1,e2]<;>rfl)<;>rfl
  have cY:i=(kinds c.nodes 0).length:=by omega
  subst cY;have c1:¬((kinds c.nodes 0).length:Int)<(kinds c.nodes 0).length:=by omega
  rw[f6i,f4l (by omega)]at aQ⊢;generalize a1l (List.replicate c.nodes.length 0) (kinds c.nodes 0) p.ins=N0 at aQ im⊢;have pU:=aQ;clear aQ
  (repeat first|simp only[ww]|(apply xa;simp+decide only[go_sem,c1];rfl;kernel_rfl))
  refine a0q (σ:=Nat) kp77_2 (λi=>[(0,.ptr 0 0 0),(3,.ptr 2 0 0),(4,.ptr 3 0 0),(5,sl r1 ((kinds c.nodes 14).map a0a)),(60,sl r1 ((kinds c.nodes 14).map a0a)),(61,.int .i64 (kinds c.nodes 14).length),(62,.int .i64 i)])
   (λi=>[some (.row 7 [[sl c.nc (c.nodes.map Nd.enc),sl c.mc (c.names.map a13),.nilslice,sl c.oc (c.outs.map a0a),.slice 1 0 c.nodes.length (some c.nodes.length),net,pin]]),some (.row 1 ((a1l N0 ((kinds c.nodes 14).take i) (p.sts.take i)).map u8R)),some (.row 2 [[sl p.ic (p.ins.map u8R),sl p.sc (p.sts.map u8R)]]),some (.row 2 [[.nilslice,.nilslice]])]) (λi=>(kinds c.nodes 14).length-i) (λi=>i≤(kinds c.nodes 14).length) 0 ?_ (f4m _) ?_
  ·rw[f6b,f6b,show a1l N0 [] []=N0 from rfl]
   (simp+decide only[go_sem,a02,a00,a3k,a37,n3,p3,e1,e2]<;>rfl)<;>rfl
  ·intro i i5;have aQ:=a2g ((kinds c.nodes 14).take i) (p.sts.take i) N0;rw[pU]at aQ;by_cases ah:i<(kinds c.nodes 14).length
   ·obtain⟨n,hn⟩:∃n,(kinds c.nodes 14)[i]?=some n:=⟨_,z9e ah⟩
    obtain⟨w,hw⟩:∃w,p.sts[i]?=some w:=⟨_,z9e (by omega)⟩
    have bp:=(a5i hn).1;have az:=a6u (nets:=N0) hn hw;have c1:(i:Int)<(kinds c.nodes 14).length:=by omega
    have bz:=wI1 (n:=i) (by omega);have eI:i<p.sts.length:=by omega
    generalize a1l N0 ((kinds c.nodes 14).take i) (p.sts.take i)=N at az aQ;obtain⟨w0,bM⟩:∃w,N[n]?=some w:=⟨_,z9e (by omega)⟩
    have jD:(N.map u8R).set n [AV.int .u8 w]=(N.set n w).map u8R:=by rw[f9n];rfl
    (repeat first|simp only[ww]|(apply xa;simp+decide only[go_sem,c1,ah,hn,hw,bp,bz,eI,aQ,bM,jD];rfl;kernel_rfl))
    refine a21 (i+1) ?_ (by omega) (by omega);rw[az]
    (simp+decide only[go_sem,a02,a00,a3k,a37,n3,p3,e1,e2]<;>rfl)<;>rfl
   have cY:i=(kinds c.nodes 14).length:=by omega
   subst cY;have c1:¬((kinds c.nodes 14).length:Int)<(kinds c.nodes 14).length:=by omega
   rw[f6i,f4l (by omega)]at aQ⊢;generalize a1l N0 (kinds c.nodes 14) p.sts=N1 at aQ im⊢;have o9:=aQ;clear aQ
   (repeat first|simp only[ww]|(apply xa;simp+decide only[go_sem,c1,ho];rfl;kernel_rfl))
   refine a4l kp77_4 (λn F H=>∃i,n=ord.length-i∧i≤ord.length∧(∀v∈(ord.take i).foldl (Pc.stepG nAlg c.nodes g) N1,v≤3)∧F=[(0,.ptr 0 0 0),(4,.ptr 2 0 0),(5,sl r1 ((kinds c.nodes 14).map a0a)),(12,.func (.func 121) [.ptr 0 0 0] []),(89,.islice (ord.map a0a) (some c.nodes.length)),(90,.int .i64 ord.length),(91,.int .i64 i)]∧H=[some (.row 7 [[sl c.nc (c.nodes.map Nd.enc),sl c.mc (c.names.map a13),.nilslice,sl c.oc (c.outs.map a0a),.slice 1 0 c.nodes.length (some c.nodes.length),net,pin]]),some (.row 1 (((ord.take i).foldl (Pc.stepG nAlg c.nodes g) N1).map u8R)),some (.row 2 [[.nilslice,.nilslice]])]) ord.length ?_ ?_
   ·refine⟨_,_,?_,0,rfl,f4m _,by rw[f6b];exact im,rfl,rfl⟩;rw[f6b,List.foldl_nil]
    (simp+decide only[go_sem,a02,a00,a3k,a37,n3,p3,e1,e2]<;>rfl)<;>rfl
   ·rintro n F H ⟨i,rfl,pJ,jb,rfl,rfl⟩
    have aQ:=a6q (A:=nAlg) (nodes:=c.nodes) (h:=g) (ord.take i) N1;rw[o9]at aQ;by_cases ah:i<ord.length
    ·obtain⟨n,hn⟩:∃n,ord[i]?=some n:=⟨_,z9e ah⟩
     have bp:=cw n (c11 hn);obtain⟨x,hx⟩:∃x,c.nodes[n]?=some x:=⟨_,z9e bp⟩
     have dK:=c11 hx;have k14:=hc.kind x dK;have kJ:=a0y hx;have az:=b6t (A:=nAlg) (nodes:=c.nodes) (h:=g) (nets:=N1) hn;have c1:(i:Int)<ord.length:=by omega
     have bz:=wI1 (n:=i) (by omega);generalize(ord.take i).foldl (Pc.stepG nAlg c.nodes g) N1=N at az aQ jb;have iS:∀v∈Pc.stepG nAlg c.nodes g N n,v≤3:=d1k hg jb n;obtain⟨w0,bM⟩:∃w,N[n]?=some w:=⟨_,z9e (by omega)⟩
     by_cases hk:x.kind≠0∧x.kind≠14
     ·have c2:¬(x.kind:Int)=0:=by omega
      have c3:¬(x.kind:Int)=14:=by omega
      have pS:∀v∈a0n nAlg c.nodes g N n,v≤3:=λv hv=>c77 hg jb n _ _ v hv;have eh:=λ(d:Bool) (R:a03)=>c9r (d:=d) R c hc net pin g n3 h2 N aQ n bp pS;unfold b3o at eh;have br:Pc.stepG nAlg c.nodes g N n=N.set n (g.net n (nAlg.ev (a0e c.nodes n) (a0n nAlg c.nodes g N n))):=by unfold Pc.stepG;rw[kJ,f6e hk]
      rw[br]at az iS;generalize nAlg.ev (a0e c.nodes n) (a0n nAlg c.nodes g N n)=w at eh az iS;have jD:(N.map u8R).set n [AV.int .u8 w]=(N.set n w).map u8R:=by rw[f9n];rfl
      have pv:(N.set n w)[n]?=some w:=by rw[f6k];simp;omega
      have uS:(N.set n w).length=c.nodes.length:=by rw[f6j];exact aQ
      have iU:((N.set n w).map u8R).set n [AV.int .u8 (g.net n w)]=(N.set n (g.net n w)).map u8R:=by have e:(N.set n (g.net n w))=(N.set n w).set n (g.net n w):=(List.set_set ..).symm;rw[e,f9n (l:=N.set n w)];rfl
      (repeat first|simp only[ww]|(apply xa;simp+decide only[go_sem,c1,ah,hn,bp,hx,c2,c3,eh,aQ,bM,jD,pv,uS,ji,iU,bz];rfl;kernel_rfl))
      refine a1j (ord.length-(i+1)) (by omega) ⟨_,_,?_,i+1,rfl,ah,by rw[az];exact iS,rfl,rfl⟩;rw[az]
      (simp+decide only[go_sem,a02,a00,a3k,a37,n3,p3,e1,e2]<;>rfl)<;>rfl
     ·have br:Pc.stepG nAlg c.nodes g N n=N.set n (g.net n w0):=by
       unfold Pc.stepG;rw[kJ,f4n hk,List.getD,bM];rfl
      rw[br]at az iS;have iU:(N.map u8R).set n [AV.int .u8 (g.net n w0)]=(N.set n (g.net n w0)).map u8R:=by rw[f9n];rfl
      have mq:x.kind=0∨x.kind=14:=by omega
      rcases mq with mq|mq
      ·have c2:(x.kind:Int)=0:=by omega
       (repeat first|simp only[ww]|(apply xa;simp+decide only[go_sem,c1,ah,hn,bp,hx,c2,aQ,bM,ji,iU,bz];rfl;kernel_rfl))
       refine a1j (ord.length-(i+1)) (by omega) ⟨_,_,?_,i+1,rfl,ah,by rw[az];exact iS,rfl,rfl⟩;rw[az]
       (simp+decide only[go_sem,a02,a00,a3k,a37,n3,p3,e1,e2]<;>rfl)<;>rfl
      ·have c3:(x.kind:Int)=14:=by omega
       (repeat first|simp only[ww]|(apply xa;simp+decide only[go_sem,c1,ah,hn,bp,hx,c3,aQ,bM,ji,iU,bz];rfl;kernel_rfl))
       refine a1j (ord.length-(i+1)) (by omega) ⟨_,_,?_,i+1,rfl,ah,by rw[az];exact iS,rfl,rfl⟩;rw[az]
       (simp+decide only[go_sem,a02,a00,a3k,a37,n3,p3,e1,e2]<;>rfl)<;>rfl
    ·obtain rfl:i=ord.length:=by omega
     have c1:¬(ord.length:Int)<ord.length:=by omega
     rw[f6i]at aQ jb⊢;clear im o9;generalize ord.foldl (Pc.stepG nAlg c.nodes g) N1=nets at aQ jb⊢;have kU:=a1r nets;have m1:=a0f kU;have m2:=λπ=>a0c π kU;have dp:=λ(d:Bool) (R:a03) (n:Nat) (hn:n<c.nodes.length)=>b6j (d:=d) R c hc net pin g n3 h2 nets aQ n hn;unfold b3o at dp
     (repeat first|simp only[ww]|(apply xa;simp+decide only[go_sem,c1];rfl;kernel_rfl))
     generalize hNR:nets.map u8R=NR at dp kU m1 m2;refine a4l kp77_6 (λn F H=>∃i,n=c.outs.length-i∧i≤c.outs.length∧F=[(0,.ptr 0 0 0),(4,.ptr 2 0 0),(5,sl r1 ((kinds c.nodes 14).map a0a)),(16,.ptr 3 0 0),(143,sl c.oc (c.outs.map a0a)),(144,.int .i64 c.outs.length),(145,.int .i64 i)]∧H=[some (.row 7 [[sl c.nc (c.nodes.map Nd.enc),sl c.mc (c.names.map a13),.nilslice,sl c.oc (c.outs.map a0a),.slice 1 0 c.nodes.length (some c.nodes.length),net,pin]]),some (.row 1 NR),some (.row 2 [[.nilslice,.nilslice]]),some (.row 2 [[grV 4 ((a1q (c.outs.take i) nets).map u8R),.nilslice]])]++grH 1 ((a1q (c.outs.take i) nets).map u8R)) c.outs.length ?_ ?_
     ·refine⟨_,_,?_,0,rfl,f4m _,rfl,rfl⟩;rw[f6b,show a1q [] nets=[]from rfl]
      (simp+decide only[go_sem,a02,a00,a0g,a0h,f4h,m1,m2,n3,p3,e1,e2]<;>rfl)<;>rfl
     ·rintro n F H ⟨i,rfl,wr,rfl,rfl⟩
      have eM:((a1q (c.outs.take i) nets).map u8R).length=i:=by simp[a1q];omega
      have ek:=a1r (a1q (c.outs.take i) nets);by_cases ah:i<c.outs.length
      ·obtain⟨o,ou⟩:∃o,c.outs[i]?=some o:=⟨_,z9e ah⟩
       have m7:=hc.outs o (c11 ou);obtain⟨v,lq⟩:∃v,nets[o]?=some v:=⟨_,z9e (by omega)⟩
       have pa:NR[o]?=some [AV.int .u8 v]:=by rw[←hNR,f4q,lq];rfl
       have pd:NR.length=c.nodes.length:=by rw[←hNR,f4j];exact aQ
       have c1:(i:Int)<c.outs.length:=by omega
       have bz:=wI1 (n:=i) (by omega);have eD:(a1q (c.outs.take (i+1)) nets).map u8R=(a1q (c.outs.take i) nets).map u8R++[[.int .u8 v]]:=by unfold a1q;rw[a0v ou,f6c,f6c];simp only[c10,f4h,List.getD,lq,f9l];rfl
       generalize(a1q (c.outs.take i) nets).map u8R=T at eM ek eD;have db:=a0f ek;have eo:=λπ=>a0c π ek;cases T with
       |nil=>
        (repeat first|simp only[ww]|(apply xa;simp+decide only[go_sem,c1,ah,ou,m7,pa,pd,bz,a0g,a0h];rfl;kernel_rfl))
        refine a1j (c.outs.length-(i+1)) (by omega) ⟨_,_,?_,i+1,rfl,ah,rfl,rfl⟩;rw[eD]
        (simp+decide only[go_sem,a02,a00,a05,a06,e14,f4o,m1,m2,n3,p3,e1,e2]<;>rfl)<;>rfl
       |cons a r=>
        simp only[e12]at eM;have aE:r.length+1+1≤1000000000:=by omega
        simp only[f9j]at db;simp only[c10,List.cons.injEq]at eo
        (repeat first|simp only[ww]|(apply xa;simp+decide only[go_sem,c1,ah,ou,m7,pa,pd,bz,a05,a06,aE];rfl;kernel_rfl))
        refine a1j (c.outs.length-(i+1)) (by omega) ⟨_,_,?_,i+1,rfl,ah,rfl,rfl⟩;rw[eD]
        (simp+decide only[go_sem,a02,a00,a05,a06,f6a,db,eo,m1,m2,n3,p3,e1,e2]<;>rfl)<;>rfl
      ·obtain rfl:i=c.outs.length:=by omega
       have c1:¬(c.outs.length:Int)<c.outs.length:=by omega
       rw[f6i]at eM ek⊢;have vB:0<c.outs.length:=List.length_pos_iff.2 hO;generalize(a1q c.outs nets).map u8R=T at eM ek⊢;cases T with
       |nil=>simp at eM;omega
       |cons a r=>
        have eL:r.length+1=c.outs.length:=by simpa using eM
        have db:=a0f ek;have eo:=λπ=>a0c π ek;have rU:=λ(m:Nat) (q:AV→Option AV)=>a12 m q ek;simp only[f9j]at db;simp only[c10,List.cons.injEq]at eo;have pU:(a8s c.nodes g nets (kinds c.nodes 14)).length=(kinds c.nodes 14).length:=by simp[a8s]
        have tI:∀(i q:Nat),(kinds c.nodes 14)[i]?=some q→(a8s c.nodes g nets (kinds c.nodes 14))[i]?=some (if(a0n nAlg c.nodes g nets q).getD 0 0=3 then 2 else(a0n nAlg c.nodes g nets q).getD 0 0):=by intro i q hq;unfold a8s;rw[f4q,hq];rfl
        generalize hXX:a8s c.nodes g nets (kinds c.nodes 14)=XX at pU tI⊢
        (repeat first|simp only[ww]|(apply xa;simp+decide only[go_sem,c1,a05,a06];rfl;kernel_rfl))
        refine a4l kp77_8 (λn F H=>∃i,n=(kinds c.nodes 14).length-i∧i≤(kinds c.nodes 14).length∧F=[(0,.ptr 0 0 0),(4,.ptr 2 0 0),(16,.ptr 3 0 0),(162,sl r1 ((kinds c.nodes 14).map a0a)),(163,.int .i64 (kinds c.nodes 14).length),(164,.int .i64 i)]∧H=[some (.row 7 [[sl c.nc (c.nodes.map Nd.enc),sl c.mc (c.names.map a13),.nilslice,sl c.oc (c.outs.map a0a),.slice 1 0 c.nodes.length (some c.nodes.length),net,pin]]),some (.row 1 NR),some (.row 2 [[.nilslice,.nilslice]]),some (.row 2 [[.slice 4 0 (r.length+1) none,grV 5 ((XX.take i).map u8R)]]),some (.row 1 (a::r))]++grH 1 ((XX.take i).map u8R)) (kinds c.nodes 14).length ?_ ?_
        ·refine⟨_,_,?_,0,rfl,f4m _,rfl,rfl⟩;rw[f6b]
         (simp+decide only[go_sem,a02,a00,a0g,a0h,f4h,m1,m2,db,eo,n3,p3,e1,e2]<;>rfl)<;>rfl
        ·rintro n F H ⟨i,rfl,wq,rfl,rfl⟩
         have ik:((XX.take i).map u8R).length=i:=by simp;omega
         have fg:=a1r (XX.take i);by_cases ah:i<(kinds c.nodes 14).length
         ·obtain⟨q,hq⟩:∃q,(kinds c.nodes 14)[i]?=some q:=⟨_,z9e ah⟩
          obtain⟨m5,ln⟩:=a5i hq;obtain⟨x,hx⟩:∃x,c.nodes[q]?=some x:=⟨_,z9e m5⟩
          have ey:x.kind=14:=by rw[←a0y hx];exact ln
          have jw:x.ins.length=1:=by have h1:=hc.lo x (c11 hx);have h2:=hc.hi x (c11 hx);rw[ey]at h1 h2;have e1:a1e 14=1:=rfl;have e2:a1m 14=1:=rfl;omega
          have np:(a0n nAlg c.nodes g nets q).length=1:=by rw[a2r,a1c hx];exact jw
          have mN:=tI i q hq;have lk:=λ(d:Bool) (R:a03)=>dp d R q m5;generalize a0n nAlg c.nodes g nets q=RR at np mN lk;obtain⟨v,vv⟩:∃v,RR=[v]:=by
           cases RR with
           |nil=>simp at np
           |cons v l=>cases l with
            |nil=>exact⟨v,rfl⟩
            |cons=>simp at np
          subst vv;simp only[List.getD_cons_zero]at mN;have iK:(XX.take (i+1)).map u8R=(XX.take i).map u8R++[[.int .u8 (if v=3 then 2 else v:Nat)]]:=by rw[a0v mN,f6c];rfl
          have c1:(i:Int)<(kinds c.nodes 14).length:=by omega
          have bz:=wI1 (n:=i) (by omega);have eA:Ax.rowAt ([v].map u8R) 0=some [AV.int .u8 v]:=rfl;have lk:∀(d:Bool) (R:a03),_=some (sl none ([v].map u8R),_,_):=lk;generalize(XX.take i).map u8R=X at ik fg iK;generalize [v].map u8R=RV at eA lk;have mS:=a0f fg;have mR:=λπ=>a0c π fg;by_cases pw:v=3
          ·rw[f6e pw]at iK;have c3:(v:Int)=3:=by omega
           cases X with
           |nil=>
            (repeat first|simp only[ww]|(apply xa;simp+decide only[go_sem,c1,ah,hq,lk,eA,c3,bz,a0g,a0h];rfl;kernel_rfl))
            refine a1j ((kinds c.nodes 14).length-(i+1)) (by omega) ⟨_,_,?_,i+1,rfl,ah,rfl,rfl⟩;rw[iK]
            (simp+decide only[go_sem,a02,a00,a05,a06,e14,f4o,m1,m2,db,eo,n3,p3,e1,e2]<;>rfl)<;>rfl
           |cons a2 r2=>
            simp only[e12]at ik;have aE:r2.length+1+1≤1000000000:=by omega
            simp only[f9j]at mS;simp only[c10,List.cons.injEq]at mR
            (repeat first|simp only[ww]|(apply xa;simp+decide only[go_sem,c1,ah,hq,lk,eA,c3,bz,a05,a06,aE];rfl;kernel_rfl))
            refine a1j ((kinds c.nodes 14).length-(i+1)) (by omega) ⟨_,_,?_,i+1,rfl,ah,rfl,rfl⟩;rw[iK]
            (simp+decide only[go_sem,a02,a00,a05,a06,f6a,mS,mR,m1,m2,db,eo,n3,p3,e1,e2]<;>rfl)<;>rfl
          ·rw[f4n pw]at iK;have c3:¬(v:Int)=3:=by omega
           cases X with
           |nil=>
            (repeat first|simp only[ww]|(apply xa;simp+decide only[go_sem,c1,ah,hq,lk,eA,c3,bz,a0g,a0h];rfl;kernel_rfl))
            refine a1j ((kinds c.nodes 14).length-(i+1)) (by omega) ⟨_,_,?_,i+1,rfl,ah,rfl,rfl⟩;rw[iK]
            (simp+decide only[go_sem,a02,a00,a05,a06,e14,f4o,m1,m2,db,eo,n3,p3,e1,e2]<;>rfl)<;>rfl
           |cons a2 r2=>
            simp only[e12]at ik;have aE:r2.length+1+1≤1000000000:=by omega
            simp only[f9j]at mS;simp only[c10,List.cons.injEq]at mR
            (repeat first|simp only[ww]|(apply xa;simp+decide only[go_sem,c1,ah,hq,lk,eA,c3,bz,a05,a06,aE];rfl;kernel_rfl))
            refine a1j ((kinds c.nodes 14).length-(i+1)) (by omega) ⟨_,_,?_,i+1,rfl,ah,rfl,rfl⟩;rw[iK]
            (simp+decide only[go_sem,a02,a00,a05,a06,f6a,mS,mR,m1,m2,db,eo,n3,p3,e1,e2]<;>rfl)<;>rfl
         ·obtain rfl:i=(kinds c.nodes 14).length:=by omega
          have c1:¬((kinds c.nodes 14).length:Int)<(kinds c.nodes 14).length:=by omega
          have iH:=λ(d:Bool) (x0 x1 x2 x3:Option AObj) (R:a03)=>b0l (d:=d) (H:=x0::x1::x2::x3::some (.row 1 (a::r))::R) (b:=4) (n:=r.length+1) ek rfl;rw[f4l (by omega)]at ik fg⊢;cases XX with
          |nil=>
           have kQ:=λ(d:Bool) (H:a03)=>b7b (d:=d) H
           (repeat first|simp only[ww]|(apply xa;simp+decide only[go_sem,c1,iH,kQ,f4h,a0g,a0h];rfl;kernel_rfl))
           refine a5l (vs:=[.agg [.slice 4 0 (r.length+1) (some (r.length+1)),.nilslice]]) (r:=(_,_)) (by simp+decide only[go_sem]) (show a1f true 1 _ _=_ from rfl) ⟨_,_,by rw[←eL];rfl⟩
          |cons a2 r2=>
           have j0:=λ(d:Bool) (x0 x1 x2 x3 x4:Option AObj)=>b0l (d:=d) (H:=[x0,x1,x2,x3,x4,some (.row 1 ((a2::r2).map u8R))]) (b:=5) (n:=r2.length+1) fg rfl;have p8:=λ(m:Nat) (q:AV→Option AV)=>a12 m q fg;have cH:(r2.map u8R).length=r2.length:=f4j ..;simp only[c10,u8R]at j0 p8 fg⊢
           (repeat first|simp only[ww]|(apply xa;simp+decide only[go_sem,c1,iH,j0,a05,a06,cH];rfl;kernel_rfl))
           refine a5l (vs:=[.agg [.slice 4 0 (r.length+1) (some (r.length+1)),.slice 5 0 (r2.length+1) (some (r2.length+1))]]) (r:=(_,_)) (by simp+decide only[go_sem]) (show a1f true 1 _ _=_ from rfl) ⟨_,_,by rw[←eL];rfl⟩
def a88:Nat→List Nat→List Nat→List Nat
 |i,x::xs,y::ys=>if con x y then i::a88 (i+1) xs ys else a88 (i+1) xs ys
 |_,_,_=>[]
theorem c0p:∀(i:Nat) (a b:List Nat),decide (0<(a88 i a b).length)=b2r a b
 |i,[],b=>by cases b<;>rfl
 |i,x::xs,[]=>rfl
 |i,x::xs,y::ys=>by
  have ih:=c0p (i+1) xs ys;by_cases h:con x y=true
  ·have e:a88 i (x::xs) (y::ys)=i::a88 (i+1) xs ys:=by simp[a88,h]
   rw[show b2r (x::xs) (y::ys)=(con x y||b2r xs ys)from rfl,h,Bool.true_or,f4p,e];simp
  ·have h:con x y=false:=by simpa using h
   have e:a88 i (x::xs) (y::ys)=a88 (i+1) xs ys:=by simp[a88,h]
   rw[show b2r (x::xs) (y::ys)=(con x y||b2r xs ys)from rfl,h,Bool.false_or,←ih];exact congrArg (λl:List Nat=>decide (0<l.length)) e
theorem c2t:∀(i:Nat) (a b:List Nat) (x y:Nat),a.length=b.length→a88 i (a++[x]) (b++[y])=if con x y then a88 i a b++[i+a.length]else a88 i a b
 |i,[],[],x,y,_=>by simp[a88]
 |i,[],_::_,_,_,h=>by simp at h
 |i,_::_,[],_,_,h=>by simp at h
 |i,u::a,v::b,x,y,h=>by
  simp only[f6a,a88];have:=c2t (i+1) a b x y (by simpa using h);rw[this];have e:i+(u::a).length=i+1+a.length:=by simp;omega
  rw[e];cases con x y<;>cases con u v<;>simp
theorem c0o:∀(i:Nat) (a b:List Nat),(a88 i a b).length≤a.length
 |i,[],b=>by cases b<;>simp[a88]
 |i,x::xs,[]=>by simp[a88]
 |i,x::xs,y::ys=>by simp only[a88];have:=c0o (i+1) xs ys;split<;>simp<;>omega
theorem d9b(ra rb:Rep)(a b:List Nat)(bu:a.length=b.length)(hl:a.length≤1000):sem L.env Mf 131 [sl ra (a.map u8R),sl rb (b.map u8R)] []=some (b7t (a88 0 a b),[]):=by
 have dY:d5k (.int .i64 (b.length:Nat)) [.int .i64 (b.length:Nat)]=some (.int .i64 (b.length:Nat)):=by simp[d5k]
 suffices hs:∃r:AV×a03,(r=(b7t (a88 0 a b),[]))∧sem L.env Mf 131 [sl ra (a.map u8R),sl rb (b.map u8R)] []=some r by obtain⟨r,rfl,h3⟩:=hs;exact h3
 (refine svE Tryz.f131 ?_;simp only[Tryz.f131,gS])
 (repeat first|simp only[ww]|(apply xa;simp+decide only[go_sem,bu,dY];rfl;kernel_rfl))
 refine a4l kp131_0 (λn F H=>∃i,n=b.length-i∧i≤b.length∧F=[(0,sl ra (a.map u8R)),(1,sl rb (b.map u8R)),(5,grV 0 ((a88 0 (a.take i) (b.take i)).map a0a)),(11,.int .i64 b.length),(12,.int .i64 i)]∧H=grH 1 ((a88 0 (a.take i) (b.take i)).map a0a)) b.length ?_ ?_
 ·refine⟨_,_,?_,0,rfl,f4m _,rfl,rfl⟩;rw[f6b,f6b,show a88 0 [] []=[]from rfl]
  (simp+decide only[go_sem,a02,a00,a0g,a0h,f4h]<;>rfl)<;>rfl
 ·rintro n F H ⟨i,rfl,hi,rfl,rfl⟩
  have ek:=a3s (a88 0 (a.take i) (b.take i));by_cases ah:i<b.length
  ·obtain⟨x,hx⟩:∃x,a[i]?=some x:=⟨_,z9e (by omega)⟩
   obtain⟨y,hy⟩:∃y,b[i]?=some y:=⟨_,z9e ah⟩
   have c1:(i:Int)<b.length:=by omega
   have bz:=wI1 (n:=i) (by omega);have kH:i<a.length:=by omega
   have gj:=c2t 0 (a.take i) (b.take i) x y (by simp;omega);rw[←a0v hx,←a0v hy,f9f,Nat.min_eq_left (by omega),f8j]at gj;have eM:((a88 0 (a.take i) (b.take i)).map a0a).length≤1000:=by have:=c0o 0 (a.take i) (b.take i);rw[f9f]at this;rw[f4j];omega
   by_cases hc:x≤1∧y≤1∧x≠y
   ·have d1:(x:Int)≤1:=by omega
    have d2:(y:Int)≤1:=by omega
    have d3:¬(x:Int)=y:=by omega
    rw[f6e (by simp[con,hc.1,hc.2.1,hc.2.2])]at gj;have eD:(a88 0 (a.take (i+1)) (b.take (i+1))).map a0a=(a88 0 (a.take i) (b.take i)).map a0a++[[.int .i64 i]]:=by rw[gj,f6c];rfl
    generalize(a88 0 (a.take i) (b.take i)).map a0a=T at eM ek eD;have db:=a0f ek;have eo:=λπ=>a0c π ek;cases T with
    |nil=>
     (repeat first|simp only[ww]|(apply xa;simp+decide only[go_sem,c1,ah,kH,hx,hy,d1,d2,d3,bz,a0g,a0h];rfl;kernel_rfl))
     refine a1j (b.length-(i+1)) (by omega) ⟨_,_,?_,i+1,rfl,ah,rfl,rfl⟩;rw[eD]
     (simp+decide only[go_sem,a02,a00,a05,a06,e14,f4o]<;>rfl)<;>rfl
    |cons u r=>
     simp only[e12]at eM;have aE:r.length+1+1≤1000000000:=by omega
     simp only[f9j]at db;simp only[c10,List.cons.injEq]at eo
     (repeat first|simp only[ww]|(apply xa;simp+decide only[go_sem,c1,ah,kH,hx,hy,d1,d2,d3,bz,a05,a06,aE];rfl;kernel_rfl))
     refine a1j (b.length-(i+1)) (by omega) ⟨_,_,?_,i+1,rfl,ah,rfl,rfl⟩;rw[eD]
     (simp+decide only[go_sem,a02,a00,a05,a06,f6a,db,eo]<;>rfl)<;>rfl
   ·rw[f4n (by simp[con];omega)]at gj;rw[←gj]at ek eM⊢;generalize eD:(a88 0 (a.take (i+1)) (b.take (i+1))).map a0a=T at eM ek⊢;have db:=a0f ek;have eo:=λπ=>a0c π ek;have dl:(¬(x:Int)≤1)∨((x:Int)≤1∧¬(y:Int)≤1)∨((x:Int)≤1∧(y:Int)≤1∧x=y):=by omega
    cases T with
    |nil=>
     rcases dl with d1|⟨d1,d2⟩|⟨d1,d2,rfl⟩
     ·(repeat first|simp only[ww]|(apply xa;simp+decide only[go_sem,c1,ah,kH,hx,hy,d1,bz,a0g,a0h];rfl;kernel_rfl))
      refine a1j (b.length-(i+1)) (by omega) ⟨_,_,?_,i+1,rfl,ah,rfl,rfl⟩;rw[eD]
      (simp+decide only[go_sem,a02,a00,a0g,a0h]<;>rfl)<;>rfl
     ·(repeat first|simp only[ww]|(apply xa;simp+decide only[go_sem,c1,ah,kH,hx,hy,d1,d2,bz,a0g,a0h];rfl;kernel_rfl))
      refine a1j (b.length-(i+1)) (by omega) ⟨_,_,?_,i+1,rfl,ah,rfl,rfl⟩;rw[eD]
      (simp+decide only[go_sem,a02,a00,a0g,a0h]<;>rfl)<;>rfl
     ·(repeat first|simp only[ww]|(apply xa;simp+decide only[go_sem,c1,ah,kH,hx,hy,d1,d2,bz,a0g,a0h];rfl;kernel_rfl))
      refine a1j (b.length-(i+1)) (by omega) ⟨_,_,?_,i+1,rfl,ah,rfl,rfl⟩;rw[eD]
      (simp+decide only[go_sem,a02,a00,a0g,a0h]<;>rfl)<;>rfl
    |cons u r=>
     simp only[f9j]at db;simp only[c10,List.cons.injEq]at eo;rcases dl with d1|⟨d1,d2⟩|⟨d1,d2,rfl⟩
     ·(repeat first|simp only[ww]|(apply xa;simp+decide only[go_sem,c1,ah,kH,hx,hy,d1,bz,a05,a06];rfl;kernel_rfl))
      refine a1j (b.length-(i+1)) (by omega) ⟨_,_,?_,i+1,rfl,ah,rfl,rfl⟩;rw[eD]
      (simp+decide only[go_sem,a02,a00,a05,a06,db,eo]<;>rfl)<;>rfl
     ·(repeat first|simp only[ww]|(apply xa;simp+decide only[go_sem,c1,ah,kH,hx,hy,d1,d2,bz,a05,a06];rfl;kernel_rfl))
      refine a1j (b.length-(i+1)) (by omega) ⟨_,_,?_,i+1,rfl,ah,rfl,rfl⟩;rw[eD]
      (simp+decide only[go_sem,a02,a00,a05,a06,db,eo]<;>rfl)<;>rfl
     ·(repeat first|simp only[ww]|(apply xa;simp+decide only[go_sem,c1,ah,kH,hx,hy,d1,d2,bz,a05,a06];rfl;kernel_rfl))
      refine a1j (b.length-(i+1)) (by omega) ⟨_,_,?_,i+1,rfl,ah,rfl,rfl⟩;rw[eD]
      (simp+decide only[go_sem,a02,a00,a05,a06,db,eo]<;>rfl)<;>rfl
  ·obtain rfl:i=b.length:=by omega
   have c1:¬(b.length:Int)<b.length:=by omega
   rw[f6i,f4l (by omega)];generalize a88 0 a b=l;cases l with
   |nil=>
    have cD:=λ(d:Bool) (H:a03)=>a04 (E:=L.env) (ag:=d) (call:=sem L.env Mf) (g:=69) (fs:=[]) (cs:=[]) (ar:=[.nilslice]) (H:=H) (by kernel_rfl) (by kernel_rfl) rfl rfl c1q rfl
    (repeat first|simp only[ww]|(apply xa;simp+decide only[go_sem,c1,f4h,a0g,a0h,cD];rfl;kernel_rfl))
    refine a5l (vs:=[.nilslice]) (r:=(_,_)) (by simp+decide only[go_sem]) (by simp+decide only[go_sem]<;>rfl) rfl
   |cons u r=>
    have cD:=λ(d:Bool)=>c49 (d:=d) (H:=[some (.row 1 ((u::r).map a0a))]) (b:=0) (n:=r.length+1) (c83 _) rfl;simp only[c10,go_sem]at cD
    (repeat first|simp only[ww]|(apply xa;simp+decide only[go_sem,c1,c10,a05,a06,f4j,cD];rfl;kernel_rfl))
    refine a5l (vs:=[.slice 0 0 (r.length+1) (some (r.length+1))]) (r:=(_,_)) (by simp+decide only[go_sem]) ?_ rfl;show a1f false 0 (.slice 0 0 (r.length+1) (some (r.length+1))) _=_;simp+decide only[go_sem,c3m,c10,d8q,e12]<;>rfl
theorem b9p{d:Bool}(H:a03)(ra rb:Rep)(a b:List Nat)(bu:a.length=b.length)(hl:a.length≤1000):a0b L.env d (sem L.env Mf) (.func (.func 131) [] []) [sl ra (a.map u8R),sl rb (b.map u8R)] H=some (b7t (a88 0 a b),H,[]):=a04 (by kernel_rfl) (by kernel_rfl) rfl (by simp only[e14,f4g,go_sem]) (d9b ra rb a b bu hl) (a6e _)
theorem d4t(ao an bo bn:List Nat)(ho:ao.length=bo.length)(hn:an.length=bn.length)(aG:ao.length≤1000)(kh:an.length≤1000):sem L.env Mf 90 [b4l ao an,b4l bo bn] []=some (.tuple [b7t (a88 0 ao bo),b7t (a88 0 an bn)],[]):=by
 obtain⟨r1,e1⟩:=b54 ao;obtain⟨r2,e2⟩:=b54 an;obtain⟨r3,e3⟩:=b54 bo;obtain⟨r4,e4⟩:=b54 bn;have h1:=λ(d:Bool) (H:a03)=>b9p (d:=d) H r1 r3 ao bo ho aG;have h2:=λ(d:Bool) (H:a03)=>b9p (d:=d) H r2 r4 an bn hn kh;unfold b4l;rw[e1,e2,e3,e4];have q1:=a6e (a88 0 ao bo);have q2:=a6e (a88 0 an bn);generalize b7t (a88 0 ao bo)=V1 at h1 q1⊢;generalize b7t (a88 0 an bn)=V2 at h2 q2⊢
 (refine sv Tryz.f90 ?_;simp only[Tryz.f90,gS])
 (repeat first|simp only[ww]|(apply xa;simp+decide only[go_sem,h1,h2];rfl;kernel_rfl))
 refine a7j (vs:=[V1,V2]) (by simp+decide only[go_sem]) (a7c (by show refs V1++(refs V2++[])=[];rw[q1,q2];rfl))
theorem c6d{d:Bool}(H:a03)(ao an bo bn:List Nat)(ho:ao.length=bo.length)(hn:an.length=bn.length)(aG:ao.length≤1000)(kh:an.length≤1000):a0b L.env d (sem L.env Mf) (.func (.func 90) [] []) [b4l ao an,b4l bo bn] H=some (.tuple [b7t (a88 0 ao bo),b7t (a88 0 an bn)],H,[]):=a04 (by kernel_rfl) (by kernel_rfl) rfl (by simp only[e14,f4g,a07,a9p,a1u]) (d4t ao an bo bn ho hn aG kh) (by simp only[a4a,a07,a6e,a1u,f4g])
theorem e2s(ao an bo bn:List Nat)(ho:ao.length=bo.length)(hn:an.length=bn.length)(aG:ao.length≤1000)(kh:an.length≤1000):sem L.env Mf 46 [b4l ao an,b4l bo bn] []=some (.bool (b2r ao bo||b2r an bn),[]):=by
 have h1:=λ(d:Bool) (H:a03)=>c6d (d:=d) H ao an bo bn ho hn aG kh;have l1:=c0o 0 ao bo;have l2:=c0o 0 an bn;have k1:=c0p 0 ao bo;have k2:=c0p 0 an bn;rw[←k1,←k2];unfold b4l at h1⊢;have q1:=a3p ao;have q2:=a3p an;have q3:=a3p bo;have q4:=a3p bn;have s1:=a2s ao;have s2:=a2s an;have s3:=a2s bo;have s4:=a2s bn;unfold b7t at h1;generalize a88 0 ao bo=P at h1 l1⊢;generalize a88 0 an bn=Q at h1 l2⊢;generalize a6m ao=A1 at h1 q1 s1⊢;generalize a6m an=A2 at h1 q2 s2⊢;generalize a6m bo=B1 at h1 q3 s3⊢;generalize a6m bn=B2 at h1 q4 s4⊢;have hw:IntKind.i64.wrap ((P.length:Int)+(Q.length:Int))=((P.length+Q.length:Nat):Int):=by rw[w64 (by omega) (by omega)];omega
 have hd:decide ((0:Int)<((P.length+Q.length:Nat):Int))=(decide (0<P.length)||decide (0<Q.length)):=by rw[f9r];simp;omega
 (refine sv Tryz.f46 ?_;simp only[Tryz.f46,gS])
 (repeat first|simp only[ww]|(apply xa;simp+decide only[go_sem,h1,s1,s2,s3,s4,hw,hd];rfl;kernel_rfl))
 refine a7j (vs:=[.bool (decide (0<P.length)||decide (0<Q.length))]) (by simp+decide only[go_sem]<;>rfl) (a7c rfl)
theorem d1s{d:Bool}(H:a03)(ao an bo bn:List Nat)(ho:ao.length=bo.length)(hn:an.length=bn.length)(aG:ao.length≤1000)(kh:an.length≤1000):a0b L.env d (sem L.env Mf) (.func (.func 46) [] []) [b4l ao an,b4l bo bn] H=some (.bool (b2r ao bo||b2r an bn),H,[]):=a04 (by kernel_rfl) (by kernel_rfl) rfl (by simp only[e14,f4g,a07,a9p,a1u]) (e2s ao an bo bn ho hn aG kh) rfl
theorem a8b{nodes:List Nd}{k n:Nat}:n∈kinds nodes k↔n<nodes.length∧a0e nodes n=k:=by unfold kinds a40;rw[f9s];simp
theorem e4d(c:Cir)(hc:c.wf)(ord:List Nat)(aR:OrdOf c ord):(a1x c ord).good where
 perm:=aR.perm
 topo:=aR.topo
 comb:=λn hn h=>by
  obtain⟨x,hx⟩:∃x,c.nodes[n]?=some x:=⟨_,z9e hn⟩
  have k14:=hc.kind x (c11 hx);have hk:a0e c.nodes n=x.kind:=a0y hx;have h:a0e c.nodes n≠0∧a0e c.nodes n≠14:=h;show a1o (a0e c.nodes n)=true;rw[hk]at h⊢;have a:1≤x.kind:=by omega
  have b:x.kind≤13:=by omega
  simp[a1o,a,b]
 inn:=λn hn m hm=>by
  obtain⟨x,hx⟩:∃x,c.nodes[n]?=some x:=⟨_,z9e hn⟩
  have hm:m∈a15 c.nodes n:=hm;rw[a1c hx]at hm;exact hc.ins x (c11 hx) m hm
 ins:=λn=>a8b
 sts:=λn=>a8b
 dff:=λn hn=>by
  obtain⟨h1,h2⟩:=a8b.1 hn;obtain⟨x,hx⟩:∃x,c.nodes[n]?=some x:=⟨_,z9e h1⟩
  rw[a0y hx]at h2;have:=hc.lo x (c11 hx);rw[h2]at this;have h3:1≤x.ins.length:=this;show a15 c.nodes n≠[];rw[a1c hx];intro h0;rw[h0]at h3;simp at h3
 outs:=λn hn=>hc.outs n hn
def a9b(c:Cir)(ord:List Nat)(f:Flt)(p:Pat):Hk Nat:=hkF f (a18 nAlg (a4u c ord p) f)
theorem c7r(c:Cir)(ord:List Nat)(p:Pat)(hp:PatOk c.nodes p):∀v∈a4u c ord p,v≤3:=c0u d3u _ _ _ _ _ hp.inv hp.stv
theorem e4c(c:Cir)(ord:List Nat)(f:Flt)(hf:FltOk c.nodes f)(p:Pat)(hp:PatOk c.nodes p):e0f (a9b c ord f p):=by
 refine e1a ?_;have hv:=hf.value;unfold a18;split
 ·show f.value≤3;omega
 split
 ·exact a7r (c7r c ord p hp) _
 split<;>exact d2n _ _
theorem e5h(c:Cir)(hc:c.wf)(hO:c.outs≠[])(p:Pat)(hp:PatOk c.nodes p)(f:Flt)(hf:FltOk c.nodes f)(ord:List Nat)(aR:OrdOf c ord) :
 sem L.env Mf 39 [.agg [sl c.nc (c.nodes.map Nd.enc),sl c.mc (c.names.map a13),.nilslice,sl c.oc (c.outs.map a0a)],.agg [.int .u8 f.model,.int .i64 f.node,.int .i64 f.pin,.int .u8 f.value,.int .i64 f.other],.agg [sl p.ic (p.ins.map u8R),sl p.sc (p.sts.map u8R)]] []=some (.tuple [b4l (a1q c.outs (a4u c ord p)) (a3y c.nodes (a4u c ord p)),b4l (a1q c.outs (b1j c ord (a9b c ord f p) p)) (a8s c.nodes (a9b c ord f p) (b1j c ord (a9b c ord f p) p) (kinds c.nodes 14)),.islice ((b1j c ord (a9b c ord f p) p).map u8R) (some c.nodes.length),.int .i64 0],[]):=by
 have bZ:=λ(d:Bool) (H:a03)=>a90 (d:=d) H c hc f hf;have mY:=λ(d:Bool) (H:a03)=>a04 (E:=L.env) (ag:=d) (call:=sem L.env Mf) (H:=H) (g:=9) (fs:=[]) (cs:=[]) (ar:=[.agg c.enc,.agg p.enc]) (by kernel_rfl) (by kernel_rfl) rfl (by simp only[e14,f4g,a07,a11,Cir.enc,Pat.enc,go_sem]) (d1q c hc hO p hp ord aR) (by simp only[a4a,a07,a9p,a1u,f4g];simp only[go_sem]);obtain⟨net,pin,hN,hP,iG⟩:=d4g c f hf (a4u c ord p) (a9u _ _ _ _ _) (c7r c ord p hp);obtain⟨r,⟨X2,X3,rfl⟩,my⟩:=e46 c hc hO p hp ord aR net pin (a9b c ord f p) hN hP (e4c c ord f hf p hp);have n3:=hN.flat;have p3:=hP.flat;have e1:∀π,ren π net=net:=λπ=>a14 π _ n3;have e2:∀π,ren π pin=pin:=λπ=>a14 π _ p3;have aY:∀v:AV,refs v=[]→FlatR [[sl c.nc (c.nodes.map Nd.enc),sl c.mc (c.names.map a13),.nilslice,sl c.oc (c.outs.map a0a),v,net,pin]]:=λv hv r hr=>by rw[f6f]at hr;subst hr;simp only[go_sem,hv,n3,p3]
 have re:=aY .nilslice rfl;have oP:∀x0 x1 x2 x3 x4:Option AObj,a0b L.env false (sem L.env Mf) (.func (.func 76) [] []) [.agg [sl c.nc (c.nodes.map Nd.enc),sl c.mc (c.names.map a13),.nilslice,sl c.oc (c.outs.map a0a)],.agg [.int .u8 f.model,.int .i64 f.node,.int .i64 f.pin,.int .u8 f.value,.int .i64 f.other],.islice ((a4u c ord p).map u8R) (some c.nodes.length)] [x0,x1,x2,x3,x4]=some (.ptr 5 0 0,[x0,x1,x2,x3,x4,some (.row 7 [[sl c.nc (c.nodes.map Nd.enc),sl c.mc (c.names.map a13),.nilslice,sl c.oc (c.outs.map a0a),.nilslice,net,pin]])],[]):=λx0 x1 x2 x3 x4=>d0j (by kernel_rfl) (by kernel_rfl) rfl (by simp only[e14,f4g,go_sem]) iG re;have dZ:(b1j c ord (a9b c ord f p) p).length=c.nodes.length:=a9u _ _ _ _ _;have bW:(a1q c.outs (b1j c ord (a9b c ord f p) p)).length=c.outs.length:=by simp[a1q]
 have uL:a6m (a1q c.outs (b1j c ord (a9b c ord f p) p)) = .islice ((a1q c.outs (b1j c ord (a9b c ord f p) p)).map u8R) (some c.outs.length):=by
  cases ho:a1q c.outs (b1j c ord (a9b c ord f p) p)with
  |nil=>rw[ho]at bW;exact absurd (g0q.1 bW.symm) hO
  |cons v q=>rw[ho]at bW;rw[←bW];rfl
 have s1:=a2s (a1q c.outs (a4u c ord p));have s2:=a2s (a3y c.nodes (a4u c ord p));have q1:=a3p (a1q c.outs (a4u c ord p));have q2:=a3p (a3y c.nodes (a4u c ord p));have z1:=λm t d=>a43 m t d _ q1;have z2:=λm t d=>a43 m t d _ q2;have m1:¬(f.model:Int)=1:=by have:=hf.model;omega
 unfold b4l at mY⊢;rw[uL];generalize a6m (a1q c.outs (a4u c ord p))=A1 at mY s1 q1 z1⊢;generalize a6m (a3y c.nodes (a4u c ord p))=A2 at mY s2 q2 z2⊢;generalize a8s c.nodes (a9b c ord f p) (b1j c ord (a9b c ord f p) p) (kinds c.nodes 14)=NX at my⊢;have dX:=a1r (a1q c.outs (b1j c ord (a9b c ord f p) p));generalize a1q c.outs (b1j c ord (a9b c ord f p) p)=OX at my bW dX⊢;have da:=a1r (b1j c ord (a9b c ord f p) p);generalize b1j c ord (a9b c ord f p) p=BX at my dZ da⊢;have o2:=λπ=>a0c π dX;have b2:=λπ=>a0c π da;have o3:=λm d=>a12 (m:=m) (d:=d) dX;have b3:=λm d=>a12 (m:=m) (d:=d) da;have qp:(OX.map u8R).take c.outs.length=OX.map u8R:=f4l (by simp[bW]);have rZ:(BX.map u8R).take c.nodes.length=BX.map u8R:=f4l (by simp[dZ]);have qr:(OX.map u8R).length=c.outs.length:=by simp[bW]
 have r6:(BX.map u8R).length=c.nodes.length:=by simp[dZ]
 generalize OX.map u8R=OR at my o2 o3 qp qr⊢;generalize BX.map u8R=BR at my b2 b3 rZ r6⊢;simp only[Cir.enc,Pat.enc,Flt.enc]at bZ mY;cases NX with
 |nil=>
  have kK:∀x0 x1 x2 x3 x4:Option AObj,a0b L.env false (sem L.env Mf) (.func (.func 77) [] []) [.ptr 5 0 0,.agg [sl p.ic (p.ins.map u8R),sl p.sc (p.sts.map u8R)]] [x0,x1,x2,x3,x4,some (.row 7 [[sl c.nc (c.nodes.map Nd.enc),sl c.mc (c.names.map a13),.nilslice,sl c.oc (c.outs.map a0a),.nilslice,net,pin]])]=some (.agg [.slice 9 0 c.outs.length (some c.outs.length),.nilslice],[x0,x1,x2,x3,x4,some (.row 7 [[sl c.nc (c.nodes.map Nd.enc),sl c.mc (c.names.map a13),.nilslice,sl c.oc (c.outs.map a0a),.slice 6 0 c.nodes.length (some c.nodes.length),net,pin]]),some (.row 1 BR),X2.map (a0t (a1w [5] 6)),X3.map (a0t (a1w [5] 6)),some (.row 1 OR)],[5]):=λx0 x1 x2 x3 x4=>by refine a8g (by kernel_rfl) (by kernel_rfl) rfl ((a2m (sem L.env Mf 77) [.ptr 5 0 0,.agg [sl p.ic (p.ins.map u8R),sl p.sc (p.sts.map u8R)]] _ (σ:=[5]) (by simp+decide only[go_sem,n3,p3]) rfl rfl (au:=[.ptr 0 0 0,.agg [sl p.ic (p.ins.map u8R),sl p.sc (p.sts.map u8R)]]) (by simp+decide only[go_sem]<;>rfl) (H0:=[some (b3o c .nilslice net pin)]) (by simp+decide only[a5a,go_sem,e1,e2,b3o]) my).trans ?_);simp+decide only[go_sem,f4e,grH,e1,e2,o2,b2]<;>rfl
  (refine sv Tryz.f39 ?_;simp only[Tryz.f39,gS])
  (repeat first|simp only[ww]|(apply xa;simp+decide only[go_sem,bZ,mY,oP,kK,m1,s1,s2];rfl;kernel_rfl))
  refine a7j (vs:=[.agg [A1,A2],.agg [.slice 9 0 c.outs.length (some c.outs.length),.nilslice],.slice 6 0 c.nodes.length (some c.nodes.length),.int .i64 0]) (by simp+decide only[go_sem]<;>rfl) ?_;show a1f false 0 _ _=_;simp+decide only[go_sem,a5q,z1,z2,o3,b3,qp,rZ,qr,r6,a6m]<;>rfl
 |cons a r=>
  have bH:=a1r (a::r);have n2:=λπ=>a0c π bH;have uf:=λπ=>a0c π (a1r r);have sA:=λm d=>a12 (m:=m) (d:=d) bH;have kK:∀x0 x1 x2 x3 x4:Option AObj,a0b L.env false (sem L.env Mf) (.func (.func 77) [] []) [.ptr 5 0 0,.agg [sl p.ic (p.ins.map u8R),sl p.sc (p.sts.map u8R)]] [x0,x1,x2,x3,x4,some (.row 7 [[sl c.nc (c.nodes.map Nd.enc),sl c.mc (c.names.map a13),.nilslice,sl c.oc (c.outs.map a0a),.nilslice,net,pin]])]=some (.agg [.slice 9 0 c.outs.length (some c.outs.length),.slice 10 0 (r.length+1) (some (r.length+1))],[x0,x1,x2,x3,x4,some (.row 7 [[sl c.nc (c.nodes.map Nd.enc),sl c.mc (c.names.map a13),.nilslice,sl c.oc (c.outs.map a0a),.slice 6 0 c.nodes.length (some c.nodes.length),net,pin]]),some (.row 1 BR),X2.map (a0t (a1w [5] 6)),X3.map (a0t (a1w [5] 6)),some (.row 1 OR),some (.row 1 ((a::r).map u8R))],[5]):=λx0 x1 x2 x3 x4=>by refine a8g (by kernel_rfl) (by kernel_rfl) rfl ((a2m (sem L.env Mf 77) [.ptr 5 0 0,.agg [sl p.ic (p.ins.map u8R),sl p.sc (p.sts.map u8R)]] _ (σ:=[5]) (by simp+decide only[go_sem,n3,p3]) rfl rfl (au:=[.ptr 0 0 0,.agg [sl p.ic (p.ins.map u8R),sl p.sc (p.sts.map u8R)]]) (by simp+decide only[go_sem]<;>rfl) (H0:=[some (b3o c .nilslice net pin)]) (by simp+decide only[a5a,go_sem,e1,e2,b3o]) my).trans ?_);simp+decide only[go_sem,f4e,grH,e1,e2,o2,b2,uf]<;>rfl
  have sx:((a::r).map u8R).take (r.length+1)=(a::r).map u8R:=f4l (by simp);have sy:((a::r).map u8R).length=r.length+1:=by simp
  have cD:a6m (a::r) = .islice ((a::r).map u8R) (some (r.length+1)):=rfl;rw[cD];generalize(a::r).map u8R=NN at kK sA sx sy⊢
  (refine sv Tryz.f39 ?_;simp only[Tryz.f39,gS])
  (repeat first|simp only[ww]|(apply xa;simp+decide only[go_sem,bZ,mY,oP,kK,m1,s1,s2];rfl;kernel_rfl))
  refine a7j (vs:=[.agg [A1,A2],.agg [.slice 9 0 c.outs.length (some c.outs.length),.slice 10 0 (r.length+1) (some (r.length+1))],.slice 6 0 c.nodes.length (some c.nodes.length),.int .i64 0]) (by simp+decide only[go_sem]<;>rfl) ?_;show a1f false 0 _ _=_;simp+decide only[go_sem,a5q,z1,z2,o3,b3,qp,rZ,qr,r6,sA,sx,sy]<;>rfl
theorem d57{d:Bool}(H:a03)(c:Cir)(hc:c.wf)(hO:c.outs≠[])(p:Pat)(hp:PatOk c.nodes p)(f:Flt)(hf:FltOk c.nodes f)(ord:List Nat)(aR:OrdOf c ord) :
 a0b L.env d (sem L.env Mf) (.func (.func 39) [] []) [.agg [sl c.nc (c.nodes.map Nd.enc),sl c.mc (c.names.map a13),.nilslice,sl c.oc (c.outs.map a0a)],.agg [.int .u8 f.model,.int .i64 f.node,.int .i64 f.pin,.int .u8 f.value,.int .i64 f.other],.agg [sl p.ic (p.ins.map u8R),sl p.sc (p.sts.map u8R)]] H=some (.tuple [b4l (a1q c.outs (a4u c ord p)) (a3y c.nodes (a4u c ord p)),b4l (a1q c.outs (b1j c ord (a9b c ord f p) p)) (a8s c.nodes (a9b c ord f p) (b1j c ord (a9b c ord f p) p) (kinds c.nodes 14)),.islice ((b1j c ord (a9b c ord f p) p).map u8R) (some c.nodes.length),.int .i64 0],H,[]):=
 a04 (by kernel_rfl) (by kernel_rfl) rfl (by simp only[e14,f4g,go_sem]) (e5h c hc hO p hp f hf ord aR) (by simp only[a4a,a07,a1u,a9p,f4g];rfl)
theorem g09(c:Cir)(hc:c.wf)(p:Pat)(hp:PatOk c.nodes p)(f:Flt)(hf:FltOk c.nodes f)(ord:List Nat)(aR:OrdOf c ord) :
 (b2r (a1q c.outs (a4u c ord p)) (a1q c.outs (b1j c ord (a9b c ord f p) p))||b2r (a3y c.nodes (a4u c ord p)) (a8s c.nodes (a9b c ord f p) (b1j c ord (a9b c ord f p) p) (kinds c.nodes 14)))=(a1x c ord).det f p:=
 ((e4d c hc ord aR).det hp.ins.symm hp.sts.symm f (λ_=>by have:=hf.value;omega) hf.node hf.other hp.inv hp.stv).symm
theorem d05(c:Cir)(hc:c.wf)(hO:c.outs≠[])(p:Pat)(hp:PatOk c.nodes p)(f:Flt)(hf:FltOk c.nodes f)(ord:List Nat)(aR:OrdOf c ord) :
 sem L.env Mf 19 [.agg [sl c.nc (c.nodes.map Nd.enc),sl c.mc (c.names.map a13),.nilslice,sl c.oc (c.outs.map a0a)],.agg [.int .u8 f.model,.int .i64 f.node,.int .i64 f.pin,.int .u8 f.value,.int .i64 f.other],.agg [sl p.ic (p.ins.map u8R),sl p.sc (p.sts.map u8R)]] []=some (.tuple [.bool ((a1x c ord).det f p),.int .i64 0],[]):=by
 have hb:=λ(d:Bool) (H:a03)=>d57 (d:=d) H c hc hO p hp f hf ord aR;have iB:(a1q c.outs (a4u c ord p)).length=(a1q c.outs (b1j c ord (a9b c ord f p) p)).length:=by simp[a1q]
 have bR:(a3y c.nodes (a4u c ord p)).length=(a8s c.nodes (a9b c ord f p) (b1j c ord (a9b c ord f p) p) (kinds c.nodes 14)).length:=by simp[a3y,a8s]
 have eH:(a1q c.outs (a4u c ord p)).length≤1000:=by have:=hc.outl;simp[a1q];omega
 have pF:(a3y c.nodes (a4u c ord p)).length≤1000:=by have:=hc.len;have:=a3h c.nodes 14;simp[a3y];omega
 have hs:=λ(d:Bool) (H:a03)=>d1s (d:=d) H _ _ _ _ iB bR eH pF;rw[g09 c hc p hp f hf ord aR]at hs;have s1:=a2s (a1q c.outs (a4u c ord p));have s2:=a2s (a3y c.nodes (a4u c ord p));have s3:=a2s (a1q c.outs (b1j c ord (a9b c ord f p) p));have s4:=a2s (a8s c.nodes (a9b c ord f p) (b1j c ord (a9b c ord f p) p) (kinds c.nodes 14));unfold b4l at hb hs;generalize a6m (a1q c.outs (a4u c ord p))=A1 at hb hs s1;generalize a6m (a3y c.nodes (a4u c ord p))=A2 at hb hs s2;generalize a6m (a1q c.outs (b1j c ord (a9b c ord f p) p))=B1 at hb hs s3;generalize a6m (a8s c.nodes (a9b c ord f p) (b1j c ord (a9b c ord f p) p) (kinds c.nodes 14))=B2 at hb hs s4
 (refine sv Tryz.f19 ?_;simp only[Tryz.f19,gS])
 (repeat first|simp only[ww]|(apply xa;simp+decide only[go_sem,hb,hs,s1,s2,s3,s4];rfl;kernel_rfl))
 (apply fqb;simp+decide only[go_sem]<;>rfl)
theorem c40{d:Bool}(H:a03)(c:Cir)(hc:c.wf)(hO:c.outs≠[])(p:Pat)(hp:PatOk c.nodes p)(f:Flt)(hf:FltOk c.nodes f)(ord:List Nat)(aR:OrdOf c ord) :
 a0b L.env d (sem L.env Mf) (.func (.func 19) [] []) [.agg c.enc,.agg f.enc,.agg p.enc] H=some (.tuple [.bool ((a1x c ord).det f p),.int .i64 0],H,[]):=
 a04 (by kernel_rfl) (by kernel_rfl) rfl (by simp only[e14,f4g,a07,a11,Cir.enc,Pat.enc,Flt.enc,go_sem]) (d05 c hc hO p hp f hf ord aR) rfl
end Go.TInst
