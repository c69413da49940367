/- Part of a proof. No condition. -/
import Derived.Test.YtmiegcjnimlbmaaGreatDoorULg
import Derived.Test.YtmiegcjnimlbmaaGreatDoorAxD
import Derived.Test.YtmiegcjnimlbmaaGreatDoorPcB
set_option linter.unusedSimpArgs false
set_option linter.unusedVariables false
namespace Go.UInst
open Go.Proofs Go.Ax Go.Pc
set_option maxRecDepth 100000
theorem d9p(c:Cir)(X:AObj)(g n:Nat)(q:Int)(hq:q<0):sem L.env Mf 118 [.agg [sl c.nc (c.nodes.map Nd.enc),sl c.mc (c.names.map a1c),.nilslice,sl c.oc (c.outs.map a0f)],.agg [.int .i64 n,.int .i64 q],.func (.func g) [] [.ptr 0 0 0]] [some X]=some (.ptr 4 0 0,[some X,some (.row 4 [[sl c.nc (c.nodes.map Nd.enc),sl c.mc (c.names.map a1c),.nilslice,sl c.oc (c.outs.map a0f)]]),some (.row 2 [[.int .i64 n,.int .i64 q]]),some (.row 1 [[.func (.func g) [] [.ptr 0 0 0]]]),some (.row 7 [[sl c.nc (c.nodes.map Nd.enc),sl c.mc (c.names.map a1c),.nilslice,sl c.oc (c.outs.map a0f),.nilslice,.func (.func 157) [] [.ptr 2 0 0,.ptr 3 0 0],.func (.func 156) [] []]])]):=by
 have hs:AV.storable (.func (.func g) [] [.ptr 0 0 0])=true:=rfl
 (refine sv Tryz.f118 ?_;simp only[Tryz.f118,gS])
 (repeat first|simp only[ww]|(apply xa;simp+decide only[go_sem,hq,hs];rfl;kernel_rfl))
 refine a6s (vs:=[.ptr 4 0 0]) (by simp+decide only[go_sem]) ?_;simp+decide only[go_sem]<;>rfl
theorem d9o(c:Cir)(X:AObj)(g n:Nat)(q:Int)(hq:¬q<0):sem L.env Mf 118 [.agg [sl c.nc (c.nodes.map Nd.enc),sl c.mc (c.names.map a1c),.nilslice,sl c.oc (c.outs.map a0f)],.agg [.int .i64 n,.int .i64 q],.func (.func g) [] [.ptr 0 0 0]] [some X]=some (.ptr 4 0 0,[some X,some (.row 4 [[sl c.nc (c.nodes.map Nd.enc),sl c.mc (c.names.map a1c),.nilslice,sl c.oc (c.outs.map a0f)]]),some (.row 2 [[.int .i64 n,.int .i64 q]]),some (.row 1 [[.func (.func g) [] [.ptr 0 0 0]]]),some (.row 7 [[sl c.nc (c.nodes.map Nd.enc),sl c.mc (c.names.map a1c),.nilslice,sl c.oc (c.outs.map a0f),.nilslice,.func (.func 155) [] [],.func (.func 158) [] [.ptr 2 0 0,.ptr 3 0 0]]])]):=by
 have hs:AV.storable (.func (.func g) [] [.ptr 0 0 0])=true:=rfl
 (refine sv Tryz.f118 ?_;simp only[Tryz.f118,gS])
 (repeat first|simp only[ww]|(apply xa;simp+decide only[go_sem,hq,hs];rfl;kernel_rfl))
 refine a6s (vs:=[.ptr 4 0 0]) (by simp+decide only[go_sem]) ?_;simp+decide only[go_sem]<;>rfl
theorem d9n(c:Cir)(X Y:AObj)(g n:Nat)(q:Int)(hq:q<0):sem L.env Mf 118 [.agg [sl c.nc (c.nodes.map Nd.enc),sl c.mc (c.names.map a1c),.nilslice,sl c.oc (c.outs.map a0f)],.agg [.int .i64 n,.int .i64 q],.func (.func g) [] [.ptr 0 0 0,.ptr 1 0 0]] [some X,some Y]=some (.ptr 5 0 0,[some X,some Y,some (.row 4 [[sl c.nc (c.nodes.map Nd.enc),sl c.mc (c.names.map a1c),.nilslice,sl c.oc (c.outs.map a0f)]]),some (.row 2 [[.int .i64 n,.int .i64 q]]),some (.row 1 [[.func (.func g) [] [.ptr 0 0 0,.ptr 1 0 0]]]),some (.row 7 [[sl c.nc (c.nodes.map Nd.enc),sl c.mc (c.names.map a1c),.nilslice,sl c.oc (c.outs.map a0f),.nilslice,.func (.func 157) [] [.ptr 3 0 0,.ptr 4 0 0],.func (.func 156) [] []]])]):=by
 have hs:AV.storable (.func (.func g) [] [.ptr 0 0 0,.ptr 1 0 0])=true:=rfl
 (refine sv Tryz.f118 ?_;simp only[Tryz.f118,gS])
 (repeat first|simp only[ww]|(apply xa;simp+decide only[go_sem,hq,hs];rfl;kernel_rfl))
 refine a6s (vs:=[.ptr 5 0 0]) (by simp+decide only[go_sem]) ?_;simp+decide only[go_sem]<;>rfl
structure NetN(v:AV)(g:Nat→Nat→Nat):Prop where
 flat:refs v=[]
 sto:v.storable=true
 nn:b00 v=some v
 call:∀(d:Bool) (H:a03) (n w:Nat),a0a L.env d (sem L.env Mf) v [.int .i64 n,.int .u8 w] H=some (.int .u8 (g n w),H,[])
structure PinN(v:AV)(g:Nat→Nat→Nat→Nat):Prop where
 flat:refs v=[]
 sto:v.storable=true
 nn:b00 v=some v
 call:∀(d:Bool) (H:a03) (n p w:Nat),a0a L.env d (sem L.env Mf) v [.int .i64 n,.int .i64 p,.int .u8 w] H=some (.int .u8 (g n p w),H,[])
theorem d3w(n:Int)(w:Nat):sem L.env Mf 155 [.int .i64 n,.int .u8 w] []=some (.int .u8 w,[]):=by
 (refine sv Tryz.f155 ?_;simp only[Tryz.f155,gS])
 (repeat first|simp only[ww]|(apply xa;simp+decide only[go_sem];rfl;kernel_rfl))
 (apply fqb;simp+decide only[go_sem]<;>rfl)
theorem d3y(n p:Int)(w:Nat):sem L.env Mf 156 [.int .i64 n,.int .i64 p,.int .u8 w] []=some (.int .u8 w,[]):=by
 (refine sv Tryz.f156 ?_;simp only[Tryz.f156,gS])
 (repeat first|simp only[ww]|(apply xa;simp+decide only[go_sem];rfl;kernel_rfl))
 (apply fqb;simp+decide only[go_sem]<;>rfl)
theorem e7a:NetN (.func (.func 155) [] []) (λ_ w=>w):=⟨rfl,rfl,rfl,λd H n w=>a04 (by kernel_rfl) (by kernel_rfl) rfl rfl (d3w n w) rfl⟩
theorem d7p:PinN (.func (.func 156) [] []) (λ_ _ w=>w):=⟨rfl,rfl,rfl,λd H n p w=>a04 (by kernel_rfl) (by kernel_rfl) rfl rfl (d3y n p w) rfl⟩
theorem nI{a b:Nat}(h:a≠b):¬(a:Int)=b:=by omega
theorem d1w(n w a b v:Nat):sem L.env Mf 196 [.int .i64 n,.int .u8 w,.iptr [.int .i64 a],.iptr [.int .i64 b],.iptr [.int .u8 v]] []=some (.int .u8 (if n=a∨n=b then v else w:Nat),[]):=by
 by_cases h1:n=a
 ·subst h1;rw[e8j (.inl rfl)]
  (refine sv Tryz.f196 ?_;simp only[Tryz.f196,gS])
  (repeat first|simp only[ww]|(apply xa;simp+decide only[go_sem];rfl;kernel_rfl))
  (apply fqb;simp+decide only[go_sem]<;>rfl)
 by_cases h2:n=b
 ·subst h2;rw[e8j (.inr rfl)];have h1:=nI h1
  (refine sv Tryz.f196 ?_;simp only[Tryz.f196,gS])
  (repeat first|simp only[ww]|(apply xa;simp+decide only[go_sem,h1];rfl;kernel_rfl))
  (apply fqb;simp+decide only[go_sem]<;>rfl)
 ·rw[e8g (by omega)];have h1:=nI h1;have h2:=nI h2
  (refine sv Tryz.f196 ?_;simp only[Tryz.f196,gS])
  (repeat first|simp only[ww]|(apply xa;simp+decide only[go_sem,h1,h2];rfl;kernel_rfl))
  (apply fqb;simp+decide only[go_sem]<;>rfl)
theorem c7c(w:Nat)(G:List Nat)(b v m:Nat)(hb:G[b]?=some v)(hm:m=G.length):sem L.env Mf 197 [.int .u8 w,.iptr [.islice (G.map u8R) (some m)],.iptr [.int .i64 b]] []=some (.int .u8 v,[]):=by
 have aj:=(e7k.1 hb).1
 (refine sv Tryz.f197 ?_;simp only[Tryz.f197,gS])
 (repeat first|simp only[ww]|(apply xa;simp+decide only[go_sem,hb,aj];rfl;kernel_rfl))
 (apply fqb;simp+decide only[go_sem]<;>rfl)
theorem d29(w:Nat)(f:Flt):sem L.env Mf 198 [.int .u8 w,.iptr [.int .u8 f.model,.int .i64 f.node,.int .i64 f.pin,.int .u8 f.value,.int .i64 f.other]] []=some (.int .u8 f.value,[]):=by
 (refine sv Tryz.f198 ?_;simp only[Tryz.f198,gS])
 (repeat first|simp only[ww]|(apply xa;simp+decide only[go_sem];rfl;kernel_rfl))
 (apply fqb;simp+decide only[go_sem]<;>rfl)
def c4f(fV:AV)(v:Nat):Prop:=refs fV=[]∧∀(d:Bool) (H:a03) (w:Nat),a0a L.env d (sem L.env Mf) fV [.int .u8 w] H=some (.int .u8 v,H,[])
theorem d6k(n w a v:Nat)(q:Int)(fV:AV)(hf:c4f fV v)(aB:fV.storable=true):sem L.env Mf 157 [.int .i64 n,.int .u8 w,.iptr [.int .i64 a,.int .i64 q],.iptr [fV]] []=some (.int .u8 (if n=a then v else w:Nat),[]):=by
 have hc:=hf.2;by_cases h1:n=a
 ·subst h1;rw[e8j rfl]
  (refine sv Tryz.f157 ?_;simp only[Tryz.f157,gS])
  (repeat first|simp only[ww]|(apply xa;simp+decide only[go_sem,hc];rfl;kernel_rfl))
  (apply fqb;simp+decide only[go_sem]<;>rfl)
 ·rw[e8g h1];have h1:=nI h1
  (refine sv Tryz.f157 ?_;simp only[Tryz.f157,gS])
  (repeat first|simp only[ww]|(apply xa;simp+decide only[go_sem,h1];rfl;kernel_rfl))
  (apply fqb;simp+decide only[go_sem]<;>rfl)
theorem e45(n p w a v:Nat)(q:Int)(fV:AV)(hf:c4f fV v):sem L.env Mf 158 [.int .i64 n,.int .i64 p,.int .u8 w,.iptr [.int .i64 a,.int .i64 q],.iptr [fV]] []=some (.int .u8 (if n=a∧(p:Int)=q then v else w:Nat),[]):=by
 have hc:=hf.2;by_cases h1:n=a
 ·subst h1;by_cases h2:(p:Int)=q
  ·subst h2;rw[e8j ⟨rfl,rfl⟩]
   (refine sv Tryz.f158 ?_;simp only[Tryz.f158,gS])
   (repeat first|simp only[ww]|(apply xa;simp+decide only[go_sem,hc];rfl;kernel_rfl))
   (apply fqb;simp+decide only[go_sem]<;>rfl)
  ·rw[e8g (λh=>h2 h.2)]
   (refine sv Tryz.f158 ?_;simp only[Tryz.f158,gS])
   (repeat first|simp only[ww]|(apply xa;simp+decide only[go_sem,h2];rfl;kernel_rfl))
   (apply fqb;simp+decide only[go_sem]<;>rfl)
 ·rw[e8g (λh=>h1 h.1)];have h1:=nI h1
  (refine sv Tryz.f158 ?_;simp only[Tryz.f158,gS])
  (repeat first|simp only[ww]|(apply xa;simp+decide only[go_sem,h1];rfl;kernel_rfl))
  (apply fqb;simp+decide only[go_sem]<;>rfl)
theorem e2d(a b k:Nat)(hk:k<16):sem L.env Mf 154 [.int .u8 a,.int .u8 b,.iptr [.int .u8 k]] []=some (.int .u8 (a4m k [a,b]:Nat),[]):=by
 have gB:=λ(d:Bool)=>b9f (d:=d) (H:=[some (.row 1 [[.int .u8 a],[.int .u8 b]])]) (b:=0) k hk [a,b] (by simp) (some 2) [[.int .u8 a],[.int .u8 b]] (λr hr=>by simp at hr;rcases hr with rfl|rfl<;>rfl) rfl rfl (m:=2) rfl;generalize a4m k [a,b]=w at gB
 (refine sv Tryz.f154 ?_;simp only[Tryz.f154,gS])
 (repeat first|simp only[ww]|(apply xa;simp+decide only[go_sem,gB];rfl;kernel_rfl))
 (apply fqb;simp+decide only[go_sem]<;>rfl)
theorem c19(v:Nat)(k:Nat)(hk:k=if v=1 then 7 else 5):sem L.env Mf 117 [.int .u8 v] []=some (.func (.func 154) [] [.iptr [.int .u8 k]],[]):=by
 subst hk;by_cases h:v=1
 ·have h1:(v:Int)=1:=by omega
  rw[e8j h]
  (refine sv Tryz.f117 ?_;simp only[Tryz.f117,gS])
  (repeat first|simp only[ww]|(apply xa;simp+decide only[go_sem,h1];rfl;kernel_rfl))
  (apply fqb;simp+decide only[go_sem]<;>rfl)
 ·have h1:¬(v:Int)=1:=by omega
  rw[e8g h]
  (refine sv Tryz.f117 ?_;simp only[Tryz.f117,gS])
  (repeat first|simp only[ww]|(apply xa;simp+decide only[go_sem,h1];rfl;kernel_rfl))
  (apply fqb;simp+decide only[go_sem]<;>rfl)
set_option maxHeartbeats 200000000
theorem e47(c:Cir)(f:Flt)(G:List Nat)(hq:f.pin<0):a0a L.env false (sem L.env Mf) (.func (.func 118) [] []) [.agg [sl c.nc (c.nodes.map Nd.enc),sl c.mc (c.names.map a1c),.nilslice,sl c.oc (c.outs.map a0f)],.agg [.int .i64 f.node,.int .i64 f.pin],.func (.func 198) [] [.ptr 1 0 0]] [some (.row 4 [[sl c.nc (c.nodes.map Nd.enc),sl c.mc (c.names.map a1c),.nilslice,sl c.oc (c.outs.map a0f)]]),some (.row 5 [[.int .u8 f.model,.int .i64 f.node,.int .i64 f.pin,.int .u8 f.value,.int .i64 f.other]]),some (.row 1 [[.islice (G.map u8R) (some c.nodes.length)]]),some (.row 1 [[.int .i64 f.node]]),some (.row 1 [[.int .i64 f.other]])]=some (.ptr 8 0 0,[some (.row 4 [[sl c.nc (c.nodes.map Nd.enc),sl c.mc (c.names.map a1c),.nilslice,sl c.oc (c.outs.map a0f)]]),some (.row 5 [[.int .u8 f.model,.int .i64 f.node,.int .i64 f.pin,.int .u8 f.value,.int .i64 f.other]]),some (.row 1 [[.islice (G.map u8R) (some c.nodes.length)]]),some (.row 1 [[.int .i64 f.node]]),some (.row 1 [[.int .i64 f.other]]),some (.row 4 [[sl c.nc (c.nodes.map Nd.enc),sl c.mc (c.names.map a1c),.nilslice,sl c.oc (c.outs.map a0f)]]),some (.row 2 [[.int .i64 f.node,.int .i64 f.pin]]),some (.row 1 [[.func (.func 198) [] [.ptr 1 0 0]]]),some (.row 7 [[sl c.nc (c.nodes.map Nd.enc),sl c.mc (c.names.map a1c),.nilslice,sl c.oc (c.outs.map a0f),.nilslice,.func (.func 157) [] [.ptr 6 0 0,.ptr 7 0 0],.func (.func 156) [] []]])],[1]):=by have h:=d9p c (.row 5 [[.int .u8 f.model,.int .i64 f.node,.int .i64 f.pin,.int .u8 f.value,.int .i64 f.other]]) 198 f.node f.pin hq;refine a85 (by kernel_rfl) (by kernel_rfl) rfl ((a1r (sem L.env Mf 118) _ [some (.row 4 [[sl c.nc (c.nodes.map Nd.enc),sl c.mc (c.names.map a1c),.nilslice,sl c.oc (c.outs.map a0f)]]),some (.row 5 [[.int .u8 f.model,.int .i64 f.node,.int .i64 f.pin,.int .u8 f.value,.int .i64 f.other]]),some (.row 1 [[.islice (G.map u8R) (some c.nodes.length)]]),some (.row 1 [[.int .i64 f.node]]),some (.row 1 [[.int .i64 f.other]])] (σ:=[1]) (by simp+decide only[go_sem]) rfl rfl (by simp+decide only[go_sem]<;>rfl) (by simp+decide only[go_sem]<;>rfl) h).trans ?_);simp+decide only[go_sem]<;>rfl
theorem e46(c:Cir)(f:Flt)(G:List Nat)(hq:¬f.pin<0):a0a L.env false (sem L.env Mf) (.func (.func 118) [] []) [.agg [sl c.nc (c.nodes.map Nd.enc),sl c.mc (c.names.map a1c),.nilslice,sl c.oc (c.outs.map a0f)],.agg [.int .i64 f.node,.int .i64 f.pin],.func (.func 198) [] [.ptr 1 0 0]] [some (.row 4 [[sl c.nc (c.nodes.map Nd.enc),sl c.mc (c.names.map a1c),.nilslice,sl c.oc (c.outs.map a0f)]]),some (.row 5 [[.int .u8 f.model,.int .i64 f.node,.int .i64 f.pin,.int .u8 f.value,.int .i64 f.other]]),some (.row 1 [[.islice (G.map u8R) (some c.nodes.length)]]),some (.row 1 [[.int .i64 f.node]]),some (.row 1 [[.int .i64 f.other]])]=some (.ptr 8 0 0,[some (.row 4 [[sl c.nc (c.nodes.map Nd.enc),sl c.mc (c.names.map a1c),.nilslice,sl c.oc (c.outs.map a0f)]]),some (.row 5 [[.int .u8 f.model,.int .i64 f.node,.int .i64 f.pin,.int .u8 f.value,.int .i64 f.other]]),some (.row 1 [[.islice (G.map u8R) (some c.nodes.length)]]),some (.row 1 [[.int .i64 f.node]]),some (.row 1 [[.int .i64 f.other]]),some (.row 4 [[sl c.nc (c.nodes.map Nd.enc),sl c.mc (c.names.map a1c),.nilslice,sl c.oc (c.outs.map a0f)]]),some (.row 2 [[.int .i64 f.node,.int .i64 f.pin]]),some (.row 1 [[.func (.func 198) [] [.ptr 1 0 0]]]),some (.row 7 [[sl c.nc (c.nodes.map Nd.enc),sl c.mc (c.names.map a1c),.nilslice,sl c.oc (c.outs.map a0f),.nilslice,.func (.func 155) [] [],.func (.func 158) [] [.ptr 6 0 0,.ptr 7 0 0]]])],[1]):=by have h:=d9o c (.row 5 [[.int .u8 f.model,.int .i64 f.node,.int .i64 f.pin,.int .u8 f.value,.int .i64 f.other]]) 198 f.node f.pin hq;refine a85 (by kernel_rfl) (by kernel_rfl) rfl ((a1r (sem L.env Mf 118) _ [some (.row 4 [[sl c.nc (c.nodes.map Nd.enc),sl c.mc (c.names.map a1c),.nilslice,sl c.oc (c.outs.map a0f)]]),some (.row 5 [[.int .u8 f.model,.int .i64 f.node,.int .i64 f.pin,.int .u8 f.value,.int .i64 f.other]]),some (.row 1 [[.islice (G.map u8R) (some c.nodes.length)]]),some (.row 1 [[.int .i64 f.node]]),some (.row 1 [[.int .i64 f.other]])] (σ:=[1]) (by simp+decide only[go_sem]) rfl rfl (by simp+decide only[go_sem]<;>rfl) (by simp+decide only[go_sem]<;>rfl) h).trans ?_);simp+decide only[go_sem]<;>rfl
theorem e48(c:Cir)(f:Flt)(G:List Nat)(hq:f.pin<0):a0a L.env false (sem L.env Mf) (.func (.func 118) [] []) [.agg [sl c.nc (c.nodes.map Nd.enc),sl c.mc (c.names.map a1c),.nilslice,sl c.oc (c.outs.map a0f)],.agg [.int .i64 f.node,.int .i64 f.pin],.func (.func 197) [] [.ptr 2 0 0,.ptr 4 0 0]] [some (.row 4 [[sl c.nc (c.nodes.map Nd.enc),sl c.mc (c.names.map a1c),.nilslice,sl c.oc (c.outs.map a0f)]]),some (.row 5 [[.int .u8 f.model,.int .i64 f.node,.int .i64 f.pin,.int .u8 f.value,.int .i64 f.other]]),some (.row 1 [[.islice (G.map u8R) (some c.nodes.length)]]),some (.row 1 [[.int .i64 f.node]]),some (.row 1 [[.int .i64 f.other]])]=some (.ptr 8 0 0,[some (.row 4 [[sl c.nc (c.nodes.map Nd.enc),sl c.mc (c.names.map a1c),.nilslice,sl c.oc (c.outs.map a0f)]]),some (.row 5 [[.int .u8 f.model,.int .i64 f.node,.int .i64 f.pin,.int .u8 f.value,.int .i64 f.other]]),some (.row 1 [[.islice (G.map u8R) (some c.nodes.length)]]),some (.row 1 [[.int .i64 f.node]]),some (.row 1 [[.int .i64 f.other]]),some (.row 4 [[sl c.nc (c.nodes.map Nd.enc),sl c.mc (c.names.map a1c),.nilslice,sl c.oc (c.outs.map a0f)]]),some (.row 2 [[.int .i64 f.node,.int .i64 f.pin]]),some (.row 1 [[.func (.func 197) [] [.ptr 2 0 0,.ptr 4 0 0]]]),some (.row 7 [[sl c.nc (c.nodes.map Nd.enc),sl c.mc (c.names.map a1c),.nilslice,sl c.oc (c.outs.map a0f),.nilslice,.func (.func 157) [] [.ptr 6 0 0,.ptr 7 0 0],.func (.func 156) [] []]])],[2,4]):=by have h:=d9n c (.row 1 [[.islice (G.map u8R) (some c.nodes.length)]]) (.row 1 [[.int .i64 f.other]]) 197 f.node f.pin hq;refine a85 (by kernel_rfl) (by kernel_rfl) rfl ((a1r (sem L.env Mf 118) _ [some (.row 4 [[sl c.nc (c.nodes.map Nd.enc),sl c.mc (c.names.map a1c),.nilslice,sl c.oc (c.outs.map a0f)]]),some (.row 5 [[.int .u8 f.model,.int .i64 f.node,.int .i64 f.pin,.int .u8 f.value,.int .i64 f.other]]),some (.row 1 [[.islice (G.map u8R) (some c.nodes.length)]]),some (.row 1 [[.int .i64 f.node]]),some (.row 1 [[.int .i64 f.other]])] (σ:=[2,4]) (by simp+decide only[go_sem]) rfl rfl (by simp+decide only[go_sem]<;>rfl) (by simp+decide only[go_sem]<;>rfl) h).trans ?_);simp+decide only[go_sem]<;>rfl
def b1h(c:Cir)(af net pin:AV):AObj:=.row 7 [[sl c.nc (c.nodes.map Nd.enc),sl c.mc (c.names.map a1c),.nilslice,sl c.oc (c.outs.map a0f),af,net,pin]]
theorem d0d(c:Cir)(f:Flt)(hf:FltOk c.nodes f)(G:List Nat)(hG:G.length=c.nodes.length)(sE:∀v∈G,v≤3):∃net pin,NetN net (hkF f (a8w nAlg G f)).net∧PinN pin (hkF f (a8w nAlg G f)).pin∧
 sem L.env Mf 161 [.agg [sl c.nc (c.nodes.map Nd.enc),sl c.mc (c.names.map a1c),.nilslice,sl c.oc (c.outs.map a0f)],.agg [.int .u8 f.model,.int .i64 f.node,.int .i64 f.pin,.int .u8 f.value,.int .i64 f.other],.islice (G.map u8R) (some c.nodes.length)] []=some (.ptr 0 0 0,[some (b1h c .nilslice net pin)]):=by
 rcases hf.model with hm|hm|hm
 · -- stuck
  have hv:a8w nAlg G f=f.value:=by unfold a8w;rw[e8j hm];rfl
  have m0:¬(f.model:Int)=2:=by omega
  have m1:¬(f.model:Int)=3:=by omega
  have hc:c4f (.func (.func 198) [] [.iptr [.int .u8 f.model,.int .i64 f.node,.int .i64 f.pin,.int .u8 f.value,.int .i64 f.other]]) f.value:=⟨rfl,λd H w=>a04 (by kernel_rfl) (by kernel_rfl) rfl rfl (d29 w f) rfl⟩
  rw[hv];by_cases hq:f.pin<0
  ·have br:=e47 c f G hq;refine⟨.func (.func 157) [] [.iptr [.int .i64 f.node,.int .i64 f.pin],.iptr [.func (.func 198) [] [.iptr [.int .u8 f.model,.int .i64 f.node,.int .i64 f.pin,.int .u8 f.value,.int .i64 f.other]]]],.func (.func 156) [] [],⟨rfl,rfl,rfl,λd H n w=>?_⟩,?_,?_⟩
   ·have h1:=a04 (E:=L.env) (ag:=d) (call:=sem L.env Mf) (H:=H) (g:=157) (fs:=[]) (ar:=[.int .i64 n,.int .u8 w]) (cs:=[.iptr [.int .i64 f.node,.int .i64 f.pin],.iptr [.func (.func 198) [] [.iptr [.int .u8 f.model,.int .i64 f.node,.int .i64 f.pin,.int .u8 f.value,.int .i64 f.other]]]]) (by kernel_rfl) (by kernel_rfl) rfl rfl (d6k n w f.node f.value f.pin _ hc rfl) rfl;rw[h1];have:(if n=f.node then f.value else w)=(hkF f f.value).net n w:=by
     unfold hkF Flt.hitsNet;have h2:¬f.model=2:=by omega
     simp[hq,h2]
    rw[this]
   ·have:(hkF f f.value).pin=λ_ _ w=>w:=by
     funext n p w;unfold hkF Flt.hitsPin
     have:¬0≤f.pin:=by omega
     simp[this]
    rw[this];exact d7p
   ·(refine sv Tryz.f161 ?_;simp only[Tryz.f161,gS])
    (repeat first|simp only[ww]|(apply xa;simp+decide only[go_sem,m0,m1,br];rfl;kernel_rfl))
    refine a6s (vs:=[.ptr 8 0 0]) (by simp+decide only[go_sem]) ?_;unfold b1h;simp+decide only[go_sem]<;>rfl
  ·have br:=e46 c f G hq;refine⟨.func (.func 155) [] [],.func (.func 158) [] [.iptr [.int .i64 f.node,.int .i64 f.pin],.iptr [.func (.func 198) [] [.iptr [.int .u8 f.model,.int .i64 f.node,.int .i64 f.pin,.int .u8 f.value,.int .i64 f.other]]]],?_,⟨rfl,rfl,rfl,λd H n p w=>?_⟩,?_⟩
   ·have:(hkF f f.value).net=λ_ w=>w:=by
     funext n w;unfold hkF Flt.hitsNet
     simp[hq]
    rw[this];exact e7a
   ·have h1:=a04 (E:=L.env) (ag:=d) (call:=sem L.env Mf) (H:=H) (g:=158) (fs:=[]) (ar:=[.int .i64 n,.int .i64 p,.int .u8 w]) (cs:=[.iptr [.int .i64 f.node,.int .i64 f.pin],.iptr [.func (.func 198) [] [.iptr [.int .u8 f.model,.int .i64 f.node,.int .i64 f.pin,.int .u8 f.value,.int .i64 f.other]]]]) (by kernel_rfl) (by kernel_rfl) rfl rfl (e45 n p w f.node f.value f.pin _ hc) rfl;rw[h1];have:(if n=f.node∧(p:Int)=f.pin then f.value else w)=(hkF f f.value).pin n p w:=by
     unfold hkF Flt.hitsPin;have:0≤f.pin:=by omega
     simp[this]
    rw[this]
   ·(refine sv Tryz.f161 ?_;simp only[Tryz.f161,gS])
    (repeat first|simp only[ww]|(apply xa;simp+decide only[go_sem,m0,m1,br];rfl;kernel_rfl))
    refine a6s (vs:=[.ptr 8 0 0]) (by simp+decide only[go_sem]) ?_;unfold b1h;simp+decide only[go_sem]<;>rfl
 · -- wired
  have hb:=hf.bridge (by omega);have m0:(f.model:Int)=2:=by omega
  obtain⟨va,ga⟩:∃v,G[f.node]?=some v:=⟨_,z9e (by rw[hG];exact hf.node)⟩
  obtain⟨vb,jt⟩:∃v,G[f.other]?=some v:=⟨_,z9e (by rw[hG];exact hf.other)⟩
  obtain⟨k,hk⟩:∃k,k=if f.value=1 then 7 else 5:=⟨_,rfl⟩
  have cD:k<16:=by rw[hk];split<;>omega
  have hv:a8w nAlg G f=a4m k [va,vb]:=by
   have h1:¬f.model=0:=by omega
   have h2:¬f.model=3:=by omega
   have h3:=hf.value;have e:∀k,nAlg.ev k [G.getD f.node nAlg.z,G.getD f.other nAlg.z]=a4m k [va,vb]:=λk=>by
    show a4m k (([G.getD f.node 0,G.getD f.other 0]:List Nat).map a4f)=_;rw[List.getD,ga,List.getD,jt]
    congr 1
    exact b38 (λv hv=>by simp at hv;rcases hv with rfl|rfl;exact sE _ (c11 ga);exact sE _ (c11 jt))
   unfold a8w;rw[e8g h1,e8g h2];by_cases h4:f.value=0
   ·rw[e8j h4,e,hk,e8g (by omega)]
   ·rw[e8g h4,e,hk,e8j (by omega)]
  have fK:=λ(d:Bool) (H:a03)=>a04 (E:=L.env) (ag:=d) (call:=sem L.env Mf) (H:=H) (g:=117) (fs:=[]) (ar:=[.int .u8 f.value]) (cs:=[]) (by kernel_rfl) (by kernel_rfl) rfl rfl (c19 f.value k hk) rfl;have rD:=λ(d:Bool) (H:a03)=>a04 (E:=L.env) (ag:=d) (call:=sem L.env Mf) (H:=H) (g:=154) (fs:=[]) (ar:=[.int .u8 va,.int .u8 vb]) (cs:=[.iptr [.int .u8 k]]) (by kernel_rfl) (by kernel_rfl) rfl rfl (e2d va vb k cD) rfl;rw[hv];generalize a4m k [va,vb]=w0 at rD⊢;have bC:=hf.node;have d9:=hf.other;refine⟨.func (.func 196) [] [.iptr [.int .i64 f.node],.iptr [.int .i64 f.other],.iptr [.int .u8 w0]],.func (.func 156) [] [],⟨rfl,rfl,rfl,λd H n w=>?_⟩,?_,?_⟩
  ·have h1:=a04 (E:=L.env) (ag:=d) (call:=sem L.env Mf) (H:=H) (g:=196) (fs:=[]) (ar:=[.int .i64 n,.int .u8 w]) (cs:=[.iptr [.int .i64 f.node],.iptr [.int .i64 f.other],.iptr [.int .u8 w0]]) (by kernel_rfl) (by kernel_rfl) rfl rfl (d1w n w f.node f.other w0) rfl;rw[h1];have:(if n=f.node∨n=f.other then w0 else w)=(hkF f w0).net n w:=by
    unfold hkF Flt.hitsNet;simp[hb.1,hm]
   rw[this]
  ·have:(hkF f w0).pin=λ_ _ w=>w:=by
    funext n p w;unfold hkF Flt.hitsPin
    simp[hb.1]
   rw[this];exact d7p
  ·(refine sv Tryz.f161 ?_;simp only[Tryz.f161,gS])
   (repeat first|simp only[ww]|(apply xa;simp+decide only[go_sem,m0,fK,rD,ga,jt,hG,bC,d9];rfl;kernel_rfl))
   refine a6s (vs:=[.ptr 6 0 0]) (by simp+decide only[go_sem]) ?_;unfold b1h;simp+decide only[go_sem]<;>rfl
 · -- strong
  have hb:=hf.bridge (by omega);have hq:f.pin<0:=by rw[hb.1];decide
  have m0:¬(f.model:Int)=2:=by omega
  have m1:(f.model:Int)=3:=by omega
  obtain⟨vb,jt⟩:∃v,G[f.other]?=some v:=⟨_,z9e (by rw[hG];exact hf.other)⟩
  have hv:a8w nAlg G f=vb:=by unfold a8w;rw[e8g (by omega),e8j hm,List.getD,jt];rfl
  have br:=e48 c f G hq;rw[m1]at br;have hc:c4f (.func (.func 197) [] [.iptr [.islice (G.map u8R) (some c.nodes.length)],.iptr [.int .i64 f.other]]) vb:=⟨rfl,λd H w=>a04 (by kernel_rfl) (by kernel_rfl) rfl rfl (c7c w G f.other vb c.nodes.length jt hG.symm) rfl⟩
  rw[hv];refine⟨.func (.func 157) [] [.iptr [.int .i64 f.node,.int .i64 f.pin],.iptr [.func (.func 197) [] [.iptr [.islice (G.map u8R) (some c.nodes.length)],.iptr [.int .i64 f.other]]]],.func (.func 156) [] [],⟨rfl,rfl,rfl,λd H n w=>?_⟩,?_,?_⟩
  ·have h1:=a04 (E:=L.env) (ag:=d) (call:=sem L.env Mf) (H:=H) (g:=157) (fs:=[]) (ar:=[.int .i64 n,.int .u8 w]) (cs:=[.iptr [.int .i64 f.node,.int .i64 f.pin],.iptr [.func (.func 197) [] [.iptr [.islice (G.map u8R) (some c.nodes.length)],.iptr [.int .i64 f.other]]]]) (by kernel_rfl) (by kernel_rfl) rfl rfl (d6k n w f.node vb f.pin _ hc rfl) rfl;rw[h1];have:(if n=f.node then vb else w)=(hkF f vb).net n w:=by
    unfold hkF Flt.hitsNet;have h2:¬f.model=2:=by omega
    simp[hq,h2]
   rw[this]
  ·have:(hkF f vb).pin=λ_ _ w=>w:=by
    funext n p w;unfold hkF Flt.hitsPin
    have:¬0≤f.pin:=by omega
    simp[this]
   rw[this];exact d7p
  ·(refine sv Tryz.f161 ?_;simp only[Tryz.f161,gS])
   (repeat first|simp only[ww]|(apply xa;simp+decide only[go_sem,m0,m1,br];rfl;kernel_rfl))
   refine a6s (vs:=[.ptr 8 0 0]) (by simp+decide only[go_sem]) ?_;unfold b1h;simp+decide only[go_sem]<;>rfl
attribute [go_sem] b1h
theorem e3j{m:Nat}{d:AV→Option AV}(l:List Nat):a8v m d (l.map u8R)=some (l.map u8R):=a12 m d (a2d l)
theorem c9i(c:Cir)(hc:c.wf)(net pin:AV)(g:Hk Nat)(h1:refs net=[])(h2:PinN pin g.pin)(af:List Nat)(hl:af.length=c.nodes.length)(n:Nat)(hn:n<c.nodes.length) :
 sem L.env Mf 160 [.ptr 0 0 0,.int .i64 n] [some (b1h c (.slice 1 0 c.nodes.length (some c.nodes.length)) net pin),some (.row 1 (af.map u8R))]=some (sl none ((a1g nAlg c.nodes g af n).map u8R),[some (b1h c (.slice 1 0 c.nodes.length (some c.nodes.length)) net pin),some (.row 1 (af.map u8R))]):=by
 have dw:=hc.len;obtain⟨x,hx⟩:∃x,c.nodes[n]?=some x:=⟨_,z9e hn⟩
 have dN:=c11 hx;have dp:=hc.insl dN;have bT:(a1g nAlg c.nodes g af n).length=x.ins.length:=by rw[a8h,a20 hx]
 have h3:=h2.flat;have e1:∀π,ren π net=net:=λπ=>a0w π _ h1;have e2:∀π,ren π pin=pin:=λπ=>a0w π _ h3;have rH:=h2.call;unfold b1h
 (refine sv Tryz.f160 ?_;simp only[Tryz.f160,gS])
 (repeat first|simp only[ww]|(apply xa;simp+decide only[go_sem,hx,hn];rfl;kernel_rfl))
 refine a0l (σ:=Nat) kp160_0 (λi=>[(0,.ptr 0 0 0),(1,.int .i64 n),(5,grV 2 (((a1g nAlg c.nodes g af n).take i).map u8R)),(16,sl x.c (x.ins.map a0f)),(17,.int .i64 x.ins.length),(18,.int .i64 i)])
  (λi=>[some (.row 7 [[sl c.nc (c.nodes.map Nd.enc),sl c.mc (c.names.map a1c),.nilslice,sl c.oc (c.outs.map a0f),.slice 1 0 c.nodes.length (some c.nodes.length),net,pin]]),some (.row 1 (af.map u8R))]++grH 1 (((a1g nAlg c.nodes g af n).take i).map u8R)) (λi=>x.ins.length-i) (λi=>i≤x.ins.length) 0 ?_ (e8e _) ?_
 ·(simp+decide only[go_sem,a01,a00,e9l,e7j,a0p,a0q,h1,h3,e1,e2,a2k,a2s]<;>rfl)
 ·intro i hi;by_cases aj:i<x.ins.length
  ·obtain⟨m,hm⟩:∃m,x.ins[i]?=some m:=⟨_,z9e aj⟩
   have db:=hc.ins x dN m (c11 hm);obtain⟨w,hw⟩:∃w,af[m]?=some w:=⟨_,z9e (by omega)⟩
   have c1:(i:Int)<x.ins.length:=by omega
   have aT:=wI1 (n:=i) (by omega);have hs:=b5i (A:=nAlg) (h:=g) (af:=af) (by rw[a20 hx];exact hm) hw;have dY:((a1g nAlg c.nodes g af n).take i).length=i:=by rw[f02];omega
   generalize(a1g nAlg c.nodes g af n).take i=T at hs dY;cases T with
   |nil=>
    (repeat first|simp only[ww]|(apply xa;simp+decide only[go_sem,c1,aj,hm,db,hw,aT,rH,hl,e7j,a0p,a0q];rfl;kernel_rfl))
    refine a25 (i+1) ?_ (by omega) (by omega);rw[hs]
    (simp+decide only[go_sem,a01,a00,e12,e7j,e7l,a09,a0b,e8c,h1,h3,e1,e2,a2k,a2s]<;>rfl)
   |cons a r=>
    simp only[e7g]at dY;have aK:r.length+1+1≤1000000000:=by omega
    (repeat first|simp only[ww]|(apply xa;simp+decide only[go_sem,c1,aj,hm,db,hw,aT,rH,hl,e12,a09,a0b,aK,e7g];rfl;kernel_rfl))
    refine a25 (i+1) ?_ (by omega) (by omega);rw[hs]
    (simp+decide only[go_sem,a01,a00,e12,e7j,e9h,a09,a0b,e7g,h1,h3,e1,e2,a2k,a2s]<;>rfl)
  ·obtain rfl:i=x.ins.length:=by omega
   have c1:¬(x.ins.length:Int)<x.ins.length:=by omega
   rw[e8b (by omega)];generalize a1g nAlg c.nodes g af n=T;cases T with
   |nil=>
    (repeat first|simp only[ww]|(apply xa;simp+decide only[go_sem,c1,e7j,a0p,a0q];rfl;kernel_rfl))
    (apply fqb;simp+decide only[go_sem,a2s,e7j,e1,e2]<;>rfl)
   |cons a r=>
    (repeat first|simp only[ww]|(apply xa;simp+decide only[go_sem,c1,e12,a09,a0b];rfl;kernel_rfl))
    (apply fqb;simp+decide only[go_sem,a2s,e3j,e12,b8u,e1,e2]<;>rfl)
theorem c40(c:Cir)(net pin:AV)(h1:refs net=[])(h2:refs pin=[]):a0y (some (b1h c (.slice 1 0 c.nodes.length (some c.nodes.length)) net pin))=[1]:=by simp+decide only[go_sem,h1,h2]
theorem b7x(c:Cir)(net pin:AV)(h1:refs net=[])(h2:refs pin=[])(π:Nat→Option Nat)(hπ:π 1=some 1):a0e π (b1h c (.slice 1 0 c.nodes.length (some c.nodes.length)) net pin)=b1h c (.slice 1 0 c.nodes.length (some c.nodes.length)) net pin:=by have e1:∀π,ren π net=net:=λπ=>a0w π _ h1;have e2:∀π,ren π pin=pin:=λπ=>a0w π _ h2;simp+decide only[go_sem,e1,e2,hπ]
theorem b3k{d:Bool}(R:a03)(c:Cir)(hc:c.wf)(net pin:AV)(g:Hk Nat)(h1:refs net=[])(h2:PinN pin g.pin)(af:List Nat)(hl:af.length=c.nodes.length)(n:Nat)(hn:n<c.nodes.length) :
 a0a L.env d (sem L.env Mf) (.func (.func 160) [] []) [.ptr 0 0 0,.int .i64 n] (some (b1h c (.slice 1 0 c.nodes.length (some c.nodes.length)) net pin)::some (.row 1 (af.map u8R))::R)=some (sl none ((a1g nAlg c.nodes g af n).map u8R),some (b1h c (.slice 1 0 c.nodes.length (some c.nodes.length)) net pin)::some (.row 1 (af.map u8R))::R,[0,1]):=
 c44 (by kernel_rfl) (by kernel_rfl) rfl rfl (c40 c net pin h1 h2.flat) (a0k (a2d af)) rfl (b7x c net pin h1 h2.flat _ rfl) (λn=>b7x c net pin h1 h2.flat _ rfl) (FlatO.row (a2d af)) (c9i c hc net pin g h1 h2 af hl n hn) (a1b _ _)
theorem d40(c:Cir)(hc:c.wf)(net pin:AV)(g:Hk Nat)(h1:refs net=[])(h2:PinN pin g.pin)(af:List Nat)(hl:af.length=c.nodes.length)(n:Nat)(hn:n<c.nodes.length)(hv:∀v∈a1g nAlg c.nodes g af n,v≤3) :
 sem L.env Mf 159 [.ptr 0 0 0,.int .i64 n] [some (b1h c (.slice 1 0 c.nodes.length (some c.nodes.length)) net pin),some (.row 1 (af.map u8R))]=some (.int .u8 (nAlg.ev (a0t c.nodes n) (a1g nAlg c.nodes g af n):Nat),[some (b1h c (.slice 1 0 c.nodes.length (some c.nodes.length)) net pin),some (.row 1 (af.map u8R))]):=by
 have dw:=hc.len;obtain⟨x,hx⟩:∃x,c.nodes[n]?=some x:=⟨_,z9e hn⟩
 have dN:=c11 hx;have dp:=hc.insl dN;have k14:=hc.kind x dN;have bT:(a1g nAlg c.nodes g af n).length=x.ins.length:=by rw[a8h,a20 hx]
 have h3:=h2.flat;have e1:∀π,ren π net=net:=λπ=>a0w π _ h1;have e2:∀π,ren π pin=pin:=λπ=>a0w π _ h3;have iL:=λ(d:Bool)=>b3k (d:=d) [] c hc net pin g h1 h2 af hl n hn;have gB:=λ(d:Bool)=>c5h (V:=sl none ((a1g nAlg c.nodes g af n).map u8R)) (.imm none) (by omega) (d:=d) x.kind (by omega);have he:nAlg.ev (a0t c.nodes n) (a1g nAlg c.nodes g af n)=a4m x.kind (a1g nAlg c.nodes g af n):=by rw[a16 hx];show a4m x.kind ((a1g nAlg c.nodes g af n).map a4f)=_;rw[b38 hv]
 rw[he];have gB:∀(d:Bool) (H:a03),a0a L.env d (sem L.env Mf) (.func (.func 62) [] []) [.int .u8 x.kind,sl none ((a1g nAlg c.nodes g af n).map u8R)] H=some (.int .u8 (a4m x.kind (a1g nAlg c.nodes g af n):Nat),H,[]):=λd H=>a04 (by kernel_rfl) (by kernel_rfl) rfl (by simp only[e7l,e7i,go_sem]) (b7f x.kind (by omega) _ _ _ (.imm none) (by omega)) rfl;generalize a4m x.kind (a1g nAlg c.nodes g af n)=w at gB⊢;generalize(a1g nAlg c.nodes g af n).map u8R=R at iL gB;unfold b1h at iL⊢
 (refine sv Tryz.f159 ?_;simp only[Tryz.f159,gS])
 (repeat first|simp only[ww]|(apply xa;simp+decide only[go_sem,hx,hn,iL,gB];rfl;kernel_rfl))
 (apply fqb;simp+decide only[go_sem,a2s,e1,e2]<;>rfl)
theorem c5m{d:Bool}(R:a03)(c:Cir)(hc:c.wf)(net pin:AV)(g:Hk Nat)(h1:refs net=[])(h2:PinN pin g.pin)(af:List Nat)(hl:af.length=c.nodes.length)(n:Nat)(hn:n<c.nodes.length)(hv:∀v∈a1g nAlg c.nodes g af n,v≤3) :
 a0a L.env d (sem L.env Mf) (.func (.func 159) [.ptr 0 0 0] []) [.int .i64 n] (some (b1h c (.slice 1 0 c.nodes.length (some c.nodes.length)) net pin)::some (.row 1 (af.map u8R))::R)=some (.int .u8 (nAlg.ev (a0t c.nodes n) (a1g nAlg c.nodes g af n):Nat),some (b1h c (.slice 1 0 c.nodes.length (some c.nodes.length)) net pin)::some (.row 1 (af.map u8R))::R,[0,1]):=
 c44 (by kernel_rfl) (by kernel_rfl) rfl rfl (c40 c net pin h1 h2.flat) (a0k (a2d af)) rfl (b7x c net pin h1 h2.flat _ rfl) (λn=>b7x c net pin h1 h2.flat _ rfl) (FlatO.row (a2d af)) (d40 c hc net pin g h1 h2 af hl n hn hv) rfl
def b4c(c:Cir)(ord:List Nat)(g:Hk Nat)(p:Pat):List Nat:=c59 nAlg c.nodes g ord (kinds c.nodes 0) (kinds c.nodes 14) p.ins p.sts
theorem d8q(c:Cir)(hc:c.wf)(hO:c.outs≠[])(p:Pat)(hp:PatOk c.nodes p)(ord:List Nat)(aG:OrdOf c ord)(net pin:AV)(g:Hk Nat)(h1:NetN net g.net)(h2:PinN pin g.pin)(hg:d6t g) :
 sem L.env Mf 120 [.ptr 0 0 0,.agg [sl p.ic (p.ins.map u8R),sl p.sc (p.sts.map u8R)]] [some (b1h c .nilslice net pin)]=some (b0h (a1f c.outs (b4c c ord g p)) (a7j c.nodes g (b4c c ord g p) (kinds c.nodes 14)),[some (b1h c .junk net pin)]):=by
 have dw:=hc.len;have dF:=hc.outl;have aK:c.nodes.length≤1000000000:=by omega
 obtain⟨r0,e3⟩:=a4d (kinds c.nodes 0);obtain⟨r1,e4⟩:=a4d (kinds c.nodes 14);have hk0:=a3q c.nodes 0;have jQ:=a3q c.nodes 14;have hi:=λ(d:Bool) H=>a3u (d:=d) H c (by omega);have hs:=λ(d:Bool) H=>a5l (d:=d) H c (by omega);rw[e3]at hi;rw[e4]at hs;have ho:=aG.call;simp only[Cir.enc]at hi hs ho;have bU:∀n∈ord,n<c.nodes.length:=λn hn=>by have:=aG.perm.mem_iff.1 hn;simpa using this
 have rI:ord.length=c.nodes.length:=by rw[aG.perm.length_eq];simp
 have m5:=hp.ins;have eD:=hp.sts;have n3:=h1.flat;have p3:=h2.flat;have n4:=h1.sto;have p4:=h2.sto;have e1:∀π,ren π net=net:=λπ=>a0w π _ n3;have e2:∀π,ren π pin=pin:=λπ=>a0w π _ p3;have pU:=h1.call;have hB:b4c c ord g p=ord.foldl (Pc.stepG nAlg c.nodes g) (a1s (a1s (List.replicate c.nodes.length 0) (kinds c.nodes 0) p.ins) (kinds c.nodes 14) p.sts):=rfl;rw[hB];have pI:(List.replicate c.nodes.length 0).map u8R=List.replicate c.nodes.length [AV.int .u8 0]:=by rw[f3c];rfl
 have gF:∀v∈a1s (a1s (List.replicate c.nodes.length 0) (kinds c.nodes 0) p.ins) (kinds c.nodes 14) p.sts,v≤3:=b3a _ _ _ (b3a _ _ _ (λv hv=>by rw[f01 hv];omega) hp.inv) hp.stv
 suffices kn:∃r:AV×a03,(r=(b0h (a1f c.outs (ord.foldl (Pc.stepG nAlg c.nodes g) (a1s (a1s (List.replicate c.nodes.length 0) (kinds c.nodes 0) p.ins) (kinds c.nodes 14) p.sts))) (a7j c.nodes g (ord.foldl (Pc.stepG nAlg c.nodes g) (a1s (a1s (List.replicate c.nodes.length 0) (kinds c.nodes 0) p.ins) (kinds c.nodes 14) p.sts)) (kinds c.nodes 14)),[some (b1h c .junk net pin)]))∧sem L.env Mf 120 [.ptr 0 0 0,.agg [sl p.ic (p.ins.map u8R),sl p.sc (p.sts.map u8R)]] [some (b1h c .nilslice net pin)]=some r by obtain⟨r,rfl,h3⟩:=kn;exact h3
 unfold b1h
 (refine svE Tryz.f120 ?_;simp only[Tryz.f120,gS])
 (repeat first|simp only[ww]|(apply xa;simp+decide only[go_sem,aK,hs,hi,n4,p4];rfl;kernel_rfl))
 refine a0l (σ:=Nat) kp120_0 (λi=>[(0,.ptr 0 0 0),(3,.ptr 2 0 0),(4,.ptr 3 0 0),(5,sl r1 ((kinds c.nodes 14).map a0f)),(41,sl r0 ((kinds c.nodes 0).map a0f)),(42,.int .i64 (kinds c.nodes 0).length),(43,.int .i64 i)])
  (λi=>[some (.row 7 [[sl c.nc (c.nodes.map Nd.enc),sl c.mc (c.names.map a1c),.nilslice,sl c.oc (c.outs.map a0f),.slice 1 0 c.nodes.length (some c.nodes.length),net,pin]]),some (.row 1 ((a1s (List.replicate c.nodes.length 0) ((kinds c.nodes 0).take i) (p.ins.take i)).map u8R)),some (.row 2 [[sl p.ic (p.ins.map u8R),sl p.sc (p.sts.map u8R)]]),some (.row 2 [[.nilslice,.nilslice]])]) (λi=>(kinds c.nodes 0).length-i) (λi=>i≤(kinds c.nodes 0).length) 0 ?_ (e8e _) ?_
 ·rw[e9l,e9l,show a1s (List.replicate c.nodes.length 0) [] []=(List.replicate c.nodes.length 0)from rfl,pI]
  (simp+decide only[go_sem,a01,a00,a2s,a2k,n3,p3,e1,e2]<;>rfl)<;>rfl
 ·intro i im;have bj:=a4a ((kinds c.nodes 0).take i) (p.ins.take i) (List.replicate c.nodes.length 0);rw[f3x]at bj;by_cases aj:i<(kinds c.nodes 0).length
  ·obtain⟨n,hn⟩:∃n,(kinds c.nodes 0)[i]?=some n:=⟨_,z9e aj⟩
   obtain⟨w,hw⟩:∃w,p.ins[i]?=some w:=⟨_,z9e (by omega)⟩
   have d6:=(a6k hn).1;have aB:=a8m (af:=(List.replicate c.nodes.length 0)) hn hw;have c1:(i:Int)<(kinds c.nodes 0).length:=by omega
   have aT:=wI1 (n:=i) (by omega);have lD:i<p.ins.length:=by omega
   generalize a1s (List.replicate c.nodes.length 0) ((kinds c.nodes 0).take i) (p.ins.take i)=N at aB bj;obtain⟨w0,bJ⟩:∃w,N[n]?=some w:=⟨_,z9e (by omega)⟩
   have iJ:(N.map u8R).set n [AV.int .u8 w]=(N.set n w).map u8R:=by rw[f1f];rfl
   (repeat first|simp only[ww]|(apply xa;simp+decide only[go_sem,c1,aj,hn,hw,d6,aT,lD,bj,bJ,iJ];rfl;kernel_rfl))
   refine a25 (i+1) ?_ (by omega) (by omega);rw[aB]
   (simp+decide only[go_sem,a01,a00,a2s,a2k,n3,p3,e1,e2]<;>rfl)<;>rfl
  have ey:i=(kinds c.nodes 0).length:=by omega
  subst ey;have c1:¬((kinds c.nodes 0).length:Int)<(kinds c.nodes 0).length:=by omega
  rw[f0p,e8b (by omega)]at bj⊢;generalize a1s (List.replicate c.nodes.length 0) (kinds c.nodes 0) p.ins=N0 at bj gF⊢;have pf:=bj;clear bj
  (repeat first|simp only[ww]|(apply xa;simp+decide only[go_sem,c1];rfl;kernel_rfl))
  refine a0l (σ:=Nat) kp120_2 (λi=>[(0,.ptr 0 0 0),(3,.ptr 2 0 0),(4,.ptr 3 0 0),(5,sl r1 ((kinds c.nodes 14).map a0f)),(60,sl r1 ((kinds c.nodes 14).map a0f)),(61,.int .i64 (kinds c.nodes 14).length),(62,.int .i64 i)])
   (λi=>[some (.row 7 [[sl c.nc (c.nodes.map Nd.enc),sl c.mc (c.names.map a1c),.nilslice,sl c.oc (c.outs.map a0f),.slice 1 0 c.nodes.length (some c.nodes.length),net,pin]]),some (.row 1 ((a1s N0 ((kinds c.nodes 14).take i) (p.sts.take i)).map u8R)),some (.row 2 [[sl p.ic (p.ins.map u8R),sl p.sc (p.sts.map u8R)]]),some (.row 2 [[.nilslice,.nilslice]])]) (λi=>(kinds c.nodes 14).length-i) (λi=>i≤(kinds c.nodes 14).length) 0 ?_ (e8e _) ?_
  ·rw[e9l,e9l,show a1s N0 [] []=N0 from rfl]
   (simp+decide only[go_sem,a01,a00,a2s,a2k,n3,p3,e1,e2]<;>rfl)<;>rfl
  ·intro i im;have bj:=a4a ((kinds c.nodes 14).take i) (p.sts.take i) N0;rw[pf]at bj;by_cases aj:i<(kinds c.nodes 14).length
   ·obtain⟨n,hn⟩:∃n,(kinds c.nodes 14)[i]?=some n:=⟨_,z9e aj⟩
    obtain⟨w,hw⟩:∃w,p.sts[i]?=some w:=⟨_,z9e (by omega)⟩
    have d6:=(a6k hn).1;have aB:=a8m (af:=N0) hn hw;have c1:(i:Int)<(kinds c.nodes 14).length:=by omega
    have aT:=wI1 (n:=i) (by omega);have lD:i<p.sts.length:=by omega
    generalize a1s N0 ((kinds c.nodes 14).take i) (p.sts.take i)=N at aB bj;obtain⟨w0,bJ⟩:∃w,N[n]?=some w:=⟨_,z9e (by omega)⟩
    have iJ:(N.map u8R).set n [AV.int .u8 w]=(N.set n w).map u8R:=by rw[f1f];rfl
    (repeat first|simp only[ww]|(apply xa;simp+decide only[go_sem,c1,aj,hn,hw,d6,aT,lD,bj,bJ,iJ];rfl;kernel_rfl))
    refine a25 (i+1) ?_ (by omega) (by omega);rw[aB]
    (simp+decide only[go_sem,a01,a00,a2s,a2k,n3,p3,e1,e2]<;>rfl)<;>rfl
   have ey:i=(kinds c.nodes 14).length:=by omega
   subst ey;have c1:¬((kinds c.nodes 14).length:Int)<(kinds c.nodes 14).length:=by omega
   rw[f0p,e8b (by omega)]at bj⊢;generalize a1s N0 (kinds c.nodes 14) p.sts=N1 at bj gF⊢;have oo:=bj;clear bj
   (repeat first|simp only[ww]|(apply xa;simp+decide only[go_sem,c1,ho];rfl;kernel_rfl))
   refine a3j kp120_4 (λn F H=>∃i,n=ord.length-i∧i≤ord.length∧(∀v∈(ord.take i).foldl (Pc.stepG nAlg c.nodes g) N1,v≤3)∧F=[(0,.ptr 0 0 0),(4,.ptr 2 0 0),(5,sl r1 ((kinds c.nodes 14).map a0f)),(12,.func (.func 159) [.ptr 0 0 0] []),(89,.islice (ord.map a0f) (some c.nodes.length)),(90,.int .i64 ord.length),(91,.int .i64 i)]∧H=[some (.row 7 [[sl c.nc (c.nodes.map Nd.enc),sl c.mc (c.names.map a1c),.nilslice,sl c.oc (c.outs.map a0f),.slice 1 0 c.nodes.length (some c.nodes.length),net,pin]]),some (.row 1 (((ord.take i).foldl (Pc.stepG nAlg c.nodes g) N1).map u8R)),some (.row 2 [[.nilslice,.nilslice]])]) ord.length ?_ ?_
   ·refine⟨_,_,?_,0,rfl,e8e _,by rw[e9l];exact gF,rfl,rfl⟩;rw[e9l,List.foldl_nil]
    (simp+decide only[go_sem,a01,a00,a2s,a2k,n3,p3,e1,e2]<;>rfl)<;>rfl
   ·rintro n F H ⟨i,rfl,rX,ip,rfl,rfl⟩
    have bj:=b7q (A:=nAlg) (nodes:=c.nodes) (h:=g) (ord.take i) N1;rw[oo]at bj;by_cases aj:i<ord.length
    ·obtain⟨n,hn⟩:∃n,ord[i]?=some n:=⟨_,z9e aj⟩
     have d6:=bU n (c11 hn);obtain⟨x,hx⟩:∃x,c.nodes[n]?=some x:=⟨_,z9e d6⟩
     have dN:=c11 hx;have k14:=hc.kind x dN;have mo:=a16 hx;have aB:=b9v (A:=nAlg) (nodes:=c.nodes) (h:=g) (af:=N1) hn;have c1:(i:Int)<ord.length:=by omega
     have aT:=wI1 (n:=i) (by omega);generalize(ord.take i).foldl (Pc.stepG nAlg c.nodes g) N1=N at aB bj ip;have ib:∀v∈Pc.stepG nAlg c.nodes g N n,v≤3:=c7e hg ip n;obtain⟨w0,bJ⟩:∃w,N[n]?=some w:=⟨_,z9e (by omega)⟩
     by_cases hk:x.kind≠0∧x.kind≠14
     ·have c2:¬(x.kind:Int)=0:=by omega
      have c3:¬(x.kind:Int)=14:=by omega
      have pd:∀v∈a1g nAlg c.nodes g N n,v≤3:=λv hv=>c86 hg ip n _ _ v hv;have gB:=λ(d:Bool) (R:a03)=>c5m (d:=d) R c hc net pin g n3 h2 N bj n d6 pd;unfold b1h at gB;have bK:Pc.stepG nAlg c.nodes g N n=N.set n (g.net n (nAlg.ev (a0t c.nodes n) (a1g nAlg c.nodes g N n))):=by unfold Pc.stepG;rw[mo,e8j hk]
      rw[bK]at aB ib;generalize nAlg.ev (a0t c.nodes n) (a1g nAlg c.nodes g N n)=w at gB aB ib;have iJ:(N.map u8R).set n [AV.int .u8 w]=(N.set n w).map u8R:=by rw[f1f];rfl
      have oM:(N.set n w)[n]?=some w:=by rw[e8n];simp;omega
      have tp:(N.set n w).length=c.nodes.length:=by rw[f0l];exact bj
      have kq:((N.set n w).map u8R).set n [AV.int .u8 (g.net n w)]=(N.set n (g.net n w)).map u8R:=by have e:(N.set n (g.net n w))=(N.set n w).set n (g.net n w):=(List.set_set ..).symm;rw[e,f1f (l:=N.set n w)];rfl
      (repeat first|simp only[ww]|(apply xa;simp+decide only[go_sem,c1,aj,hn,d6,hx,c2,c3,gB,bj,bJ,iJ,oM,tp,pU,kq,aT];rfl;kernel_rfl))
      refine a0x (ord.length-(i+1)) (by omega) ⟨_,_,?_,i+1,rfl,aj,by rw[aB];exact ib,rfl,rfl⟩;rw[aB]
      (simp+decide only[go_sem,a01,a00,a2s,a2k,n3,p3,e1,e2]<;>rfl)<;>rfl
     ·have bK:Pc.stepG nAlg c.nodes g N n=N.set n (g.net n w0):=by
       unfold Pc.stepG;rw[mo,e8g hk,List.getD,bJ];rfl
      rw[bK]at aB ib;have kq:(N.map u8R).set n [AV.int .u8 (g.net n w0)]=(N.set n (g.net n w0)).map u8R:=by rw[f1f];rfl
      have lC:x.kind=0∨x.kind=14:=by omega
      rcases lC with lC|lC
      ·have c2:(x.kind:Int)=0:=by omega
       (repeat first|simp only[ww]|(apply xa;simp+decide only[go_sem,c1,aj,hn,d6,hx,c2,bj,bJ,pU,kq,aT];rfl;kernel_rfl))
       refine a0x (ord.length-(i+1)) (by omega) ⟨_,_,?_,i+1,rfl,aj,by rw[aB];exact ib,rfl,rfl⟩;rw[aB]
       (simp+decide only[go_sem,a01,a00,a2s,a2k,n3,p3,e1,e2]<;>rfl)<;>rfl
      ·have c3:(x.kind:Int)=14:=by omega
       (repeat first|simp only[ww]|(apply xa;simp+decide only[go_sem,c1,aj,hn,d6,hx,c3,bj,bJ,pU,kq,aT];rfl;kernel_rfl))
       refine a0x (ord.length-(i+1)) (by omega) ⟨_,_,?_,i+1,rfl,aj,by rw[aB];exact ib,rfl,rfl⟩;rw[aB]
       (simp+decide only[go_sem,a01,a00,a2s,a2k,n3,p3,e1,e2]<;>rfl)<;>rfl
    ·obtain rfl:i=ord.length:=by omega
     have c1:¬(ord.length:Int)<ord.length:=by omega
     rw[f0p]at bj ip⊢;clear gF oo;generalize ord.foldl (Pc.stepG nAlg c.nodes g) N1=af at bj ip⊢;have jm:=a2d af;have m1:=a08 jm;have m2:=λπ=>a05 π jm;have iL:=λ(d:Bool) (R:a03) (n:Nat) (hn:n<c.nodes.length)=>b3k (d:=d) R c hc net pin g n3 h2 af bj n hn;unfold b1h at iL
     (repeat first|simp only[ww]|(apply xa;simp+decide only[go_sem,c1];rfl;kernel_rfl))
     generalize hNR:af.map u8R=NR at iL jm m1 m2;refine a3j kp120_6 (λn F H=>∃i,n=c.outs.length-i∧i≤c.outs.length∧F=[(0,.ptr 0 0 0),(4,.ptr 2 0 0),(5,sl r1 ((kinds c.nodes 14).map a0f)),(16,.ptr 3 0 0),(143,sl c.oc (c.outs.map a0f)),(144,.int .i64 c.outs.length),(145,.int .i64 i)]∧H=[some (.row 7 [[sl c.nc (c.nodes.map Nd.enc),sl c.mc (c.names.map a1c),.nilslice,sl c.oc (c.outs.map a0f),.slice 1 0 c.nodes.length (some c.nodes.length),net,pin]]),some (.row 1 NR),some (.row 2 [[.nilslice,.nilslice]]),some (.row 2 [[grV 4 ((a1f (c.outs.take i) af).map u8R),.nilslice]])]++grH 1 ((a1f (c.outs.take i) af).map u8R)) c.outs.length ?_ ?_
     ·refine⟨_,_,?_,0,rfl,e8e _,rfl,rfl⟩;rw[e9l,show a1f [] af=[]from rfl]
      (simp+decide only[go_sem,a01,a00,a0p,a0q,e7j,m1,m2,n3,p3,e1,e2]<;>rfl)<;>rfl
     ·rintro n F H ⟨i,rfl,uH,rfl,rfl⟩
      have gE:((a1f (c.outs.take i) af).map u8R).length=i:=by simp[a1f];omega
      have ft:=a2d (a1f (c.outs.take i) af);by_cases aj:i<c.outs.length
      ·obtain⟨o,oR⟩:∃o,c.outs[i]?=some o:=⟨_,z9e aj⟩
       have mi:=hc.outs o (c11 oR);obtain⟨v,kz⟩:∃v,af[o]?=some v:=⟨_,z9e (by omega)⟩
       have oq:NR[o]?=some [AV.int .u8 v]:=by rw[←hNR,e8a,kz];rfl
       have ou:NR.length=c.nodes.length:=by rw[←hNR,c10];exact bj
       have c1:(i:Int)<c.outs.length:=by omega
       have aT:=wI1 (n:=i) (by omega);have eG:(a1f (c.outs.take (i+1)) af).map u8R=(a1f (c.outs.take i) af).map u8R++[[.int .u8 v]]:=by unfold a1f;rw[a1d oR,e8l,e8l];simp only[e12,e7j,List.getD,kz,e9x];rfl
       generalize(a1f (c.outs.take i) af).map u8R=T at gE ft eG;have ed:=a08 ft;have fw:=λπ=>a05 π ft;cases T with
       |nil=>
        (repeat first|simp only[ww]|(apply xa;simp+decide only[go_sem,c1,aj,oR,mi,oq,ou,aT,a0p,a0q];rfl;kernel_rfl))
        refine a0x (c.outs.length-(i+1)) (by omega) ⟨_,_,?_,i+1,rfl,aj,rfl,rfl⟩;rw[eG]
        (simp+decide only[go_sem,a01,a00,a09,a0b,e7l,e8c,m1,m2,n3,p3,e1,e2]<;>rfl)<;>rfl
       |cons a r=>
        simp only[e7g]at gE;have aK:r.length+1+1≤1000000000:=by omega
        simp only[e9v]at ed;simp only[e12,List.cons.injEq]at fw
        (repeat first|simp only[ww]|(apply xa;simp+decide only[go_sem,c1,aj,oR,mi,oq,ou,aT,a09,a0b,aK];rfl;kernel_rfl))
        refine a0x (c.outs.length-(i+1)) (by omega) ⟨_,_,?_,i+1,rfl,aj,rfl,rfl⟩;rw[eG]
        (simp+decide only[go_sem,a01,a00,a09,a0b,e9h,ed,fw,m1,m2,n3,p3,e1,e2]<;>rfl)<;>rfl
      ·obtain rfl:i=c.outs.length:=by omega
       have c1:¬(c.outs.length:Int)<c.outs.length:=by omega
       rw[f0p]at gE ft⊢;have fu:0<c.outs.length:=List.length_pos_iff.2 hO;have qK:a39 (a1f c.outs af) = .islice ((a1f c.outs af).map u8R) (some c.outs.length):=by
        have er:(a1f c.outs af).length=c.outs.length:=by simp[a1f]
        cases hoN:a1f c.outs af with
        |nil=>rw[hoN]at er;simp at er;omega
        |cons v q=>rw[hoN]at er;simp only[e7g]at er;rw[←er];rfl
       unfold b0h;rw[qK];generalize(a1f c.outs af).map u8R=T at gE ft;cases T with
       |nil=>simp at gE;omega
       |cons a r=>
        have gj:r.length+1=c.outs.length:=by simpa using gE
        have ed:=a08 ft;have fw:=λπ=>a05 π ft;have l5:=λ(m:Nat) (q:AV→Option AV)=>a12 m q ft;simp only[e9v]at ed;simp only[e12,List.cons.injEq]at fw;have pf:(a7j c.nodes g af (kinds c.nodes 14)).length=(kinds c.nodes 14).length:=by simp[a7j]
        have sA:∀(i q:Nat),(kinds c.nodes 14)[i]?=some q→(a7j c.nodes g af (kinds c.nodes 14))[i]?=some (if(a1g nAlg c.nodes g af q).getD 0 0=3 then 2 else(a1g nAlg c.nodes g af q).getD 0 0):=by intro i q hq;unfold a7j;rw[e8a,hq];rfl
        generalize qI:a7j c.nodes g af (kinds c.nodes 14)=XX at pf sA⊢
        (repeat first|simp only[ww]|(apply xa;simp+decide only[go_sem,c1,a09,a0b];rfl;kernel_rfl))
        refine a3j kp120_8 (λn F H=>∃i,n=(kinds c.nodes 14).length-i∧i≤(kinds c.nodes 14).length∧F=[(0,.ptr 0 0 0),(4,.ptr 2 0 0),(16,.ptr 3 0 0),(162,sl r1 ((kinds c.nodes 14).map a0f)),(163,.int .i64 (kinds c.nodes 14).length),(164,.int .i64 i)]∧H=[some (.row 7 [[sl c.nc (c.nodes.map Nd.enc),sl c.mc (c.names.map a1c),.nilslice,sl c.oc (c.outs.map a0f),.slice 1 0 c.nodes.length (some c.nodes.length),net,pin]]),some (.row 1 NR),some (.row 2 [[.nilslice,.nilslice]]),some (.row 2 [[.slice 4 0 (r.length+1) none,grV 5 ((XX.take i).map u8R)]]),some (.row 1 (a::r))]++grH 1 ((XX.take i).map u8R)) (kinds c.nodes 14).length ?_ ?_
        ·refine⟨_,_,?_,0,rfl,e8e _,rfl,rfl⟩;rw[e9l]
         (simp+decide only[go_sem,a01,a00,a0p,a0q,e7j,m1,m2,ed,fw,n3,p3,e1,e2]<;>rfl)<;>rfl
        ·rintro n F H ⟨i,rfl,uG,rfl,rfl⟩
         have gY:((XX.take i).map u8R).length=i:=by simp;omega
         have eR:=a2d (XX.take i);by_cases aj:i<(kinds c.nodes 14).length
         ·obtain⟨q,hq⟩:∃q,(kinds c.nodes 14)[i]?=some q:=⟨_,z9e aj⟩
          obtain⟨mg,np⟩:=a6k hq;obtain⟨x,hx⟩:∃x,c.nodes[q]?=some x:=⟨_,z9e mg⟩
          have em:x.kind=14:=by rw[←a16 hx];exact np
          have fY:x.ins.length=1:=by have h1:=hc.lo x (c11 hx);have h2:=hc.hi x (c11 hx);rw[em]at h1 h2;have e1:a22 14=1:=rfl;have e2:a23 14=1:=rfl;omega
          have kT:(a1g nAlg c.nodes g af q).length=1:=by rw[a8h,a20 hx];exact fY
          have l3:=sA i q hq;have ku:=λ(d:Bool) (R:a03)=>iL d R q mg;generalize a1g nAlg c.nodes g af q=RR at kT l3 ku;obtain⟨v,dL⟩:∃v,RR=[v]:=by
           cases RR with
           |nil=>simp at kT
           |cons v l=>cases l with
            |nil=>exact⟨v,rfl⟩
            |cons=>simp at kT
          subst dL;simp only[List.getD_cons_zero]at l3;have gZ:(XX.take (i+1)).map u8R=(XX.take i).map u8R++[[.int .u8 (if v=3 then 2 else v:Nat)]]:=by rw[a1d l3,e8l];rfl
          have c1:(i:Int)<(kinds c.nodes 14).length:=by omega
          have aT:=wI1 (n:=i) (by omega);have gP:Ax.rowAt ([v].map u8R) 0=some [AV.int .u8 v]:=rfl;have ku:∀(d:Bool) (R:a03),_=some (sl none ([v].map u8R),_,_):=ku;generalize(XX.take i).map u8R=X at gY eR gZ;generalize [v].map u8R=RV at gP ku;have l7:=a08 eR;have l6:=λπ=>a05 π eR;by_cases pE:v=3
          ·rw[e8j pE]at gZ;have c3:(v:Int)=3:=by omega
           cases X with
           |nil=>
            (repeat first|simp only[ww]|(apply xa;simp+decide only[go_sem,c1,aj,hq,ku,gP,c3,aT,a0p,a0q];rfl;kernel_rfl))
            refine a0x ((kinds c.nodes 14).length-(i+1)) (by omega) ⟨_,_,?_,i+1,rfl,aj,rfl,rfl⟩;rw[gZ]
            (simp+decide only[go_sem,a01,a00,a09,a0b,e7l,e8c,m1,m2,ed,fw,n3,p3,e1,e2]<;>rfl)<;>rfl
           |cons a2 r2=>
            simp only[e7g]at gY;have aK:r2.length+1+1≤1000000000:=by omega
            simp only[e9v]at l7;simp only[e12,List.cons.injEq]at l6
            (repeat first|simp only[ww]|(apply xa;simp+decide only[go_sem,c1,aj,hq,ku,gP,c3,aT,a09,a0b,aK];rfl;kernel_rfl))
            refine a0x ((kinds c.nodes 14).length-(i+1)) (by omega) ⟨_,_,?_,i+1,rfl,aj,rfl,rfl⟩;rw[gZ]
            (simp+decide only[go_sem,a01,a00,a09,a0b,e9h,l7,l6,m1,m2,ed,fw,n3,p3,e1,e2]<;>rfl)<;>rfl
          ·rw[e8g pE]at gZ;have c3:¬(v:Int)=3:=by omega
           cases X with
           |nil=>
            (repeat first|simp only[ww]|(apply xa;simp+decide only[go_sem,c1,aj,hq,ku,gP,c3,aT,a0p,a0q];rfl;kernel_rfl))
            refine a0x ((kinds c.nodes 14).length-(i+1)) (by omega) ⟨_,_,?_,i+1,rfl,aj,rfl,rfl⟩;rw[gZ]
            (simp+decide only[go_sem,a01,a00,a09,a0b,e7l,e8c,m1,m2,ed,fw,n3,p3,e1,e2]<;>rfl)<;>rfl
           |cons a2 r2=>
            simp only[e7g]at gY;have aK:r2.length+1+1≤1000000000:=by omega
            simp only[e9v]at l7;simp only[e12,List.cons.injEq]at l6
            (repeat first|simp only[ww]|(apply xa;simp+decide only[go_sem,c1,aj,hq,ku,gP,c3,aT,a09,a0b,aK];rfl;kernel_rfl))
            refine a0x ((kinds c.nodes 14).length-(i+1)) (by omega) ⟨_,_,?_,i+1,rfl,aj,rfl,rfl⟩;rw[gZ]
            (simp+decide only[go_sem,a01,a00,a09,a0b,e9h,l7,l6,m1,m2,ed,fw,n3,p3,e1,e2]<;>rfl)<;>rfl
         ·obtain rfl:i=(kinds c.nodes 14).length:=by omega
          have c1:¬((kinds c.nodes 14).length:Int)<(kinds c.nodes 14).length:=by omega
          have jB:=λ(d:Bool) (x0 x1 x2 x3:Option AObj) (R:a03)=>a8n (d:=d) (H:=x0::x1::x2::x3::some (.row 1 (a::r))::R) (b:=4) (n:=r.length+1) ft rfl;rw[e8b (by omega)]at gY eR⊢;cases XX with
          |nil=>
           have jC:=λ(d:Bool) (H:a03)=>b44 (d:=d) H
           (repeat first|simp only[ww]|(apply xa;simp+decide only[go_sem,c1,jB,jC,e7j,a0p,a0q];rfl;kernel_rfl))
           refine a21 (vs:=[.agg [.slice 4 0 (r.length+1) (some (r.length+1)),.nilslice]]) (r:=(_,_)) (by simp+decide only[go_sem]) ?_ rfl;show a1l false 1 (.agg [.slice 4 0 (r.length+1) (some (r.length+1)),.nilslice]) _=_;have cX:List.take (r.length+1) (a::r)=a::r:=f0p (l:=a::r);rw[←gj];unfold a39;simp+decide only[go_sem,l5,m2,cX,e1,e2]<;>rfl
          |cons a2 r2=>
           have ja:=λ(d:Bool) (x0 x1 x2 x3 x4:Option AObj)=>a8n (d:=d) (H:=[x0,x1,x2,x3,x4,some (.row 1 ((a2::r2).map u8R))]) (b:=5) (n:=r2.length+1) eR rfl;have oC:=λ(m:Nat) (q:AV→Option AV)=>a12 m q eR;have dl:(r2.map u8R).length=r2.length:=c10 ..;simp only[e12,u8R]at ja oC eR⊢
           (repeat first|simp only[ww]|(apply xa;simp+decide only[go_sem,c1,jB,ja,a09,a0b,dl];rfl;kernel_rfl))
           refine a21 (vs:=[.agg [.slice 4 0 (r.length+1) (some (r.length+1)),.slice 5 0 (r2.length+1) (some (r2.length+1))]]) (r:=(_,_)) (by simp+decide only[go_sem]) ?_ rfl;show a1l false 1 (.agg [.slice 4 0 (r.length+1) (some (r.length+1)),.slice 5 0 (r2.length+1) (some (r2.length+1))]) _=_;have cX:List.take (r.length+1) (a::r)=a::r:=f0p (l:=a::r);have lg:List.take (r2.length+1) ([AV.int .u8 a2]::r2.map u8R)=[AV.int .u8 a2]::r2.map u8R:=e8b (by simp);rw[←gj];unfold a39;simp only[e12,u8R];simp+decide only[go_sem,l5,oC,m2,cX,lg,e1,e2]<;>rfl
def a8u(c:Cir)(ord:List Nat)(f:Flt)(p:Pat):Hk Nat:=hkF f (a8w nAlg (a5z c ord p) f)
theorem c3n(c:Cir)(ord:List Nat)(p:Pat)(hp:PatOk c.nodes p):∀v∈a5z c ord p,v≤3:=b78 d69 _ _ _ _ _ hp.inv hp.stv
theorem c9s(c:Cir)(ord:List Nat)(f:Flt)(hf:FltOk c.nodes f)(p:Pat)(hp:PatOk c.nodes p):d6t (a8u c ord f p):=by
 refine e3c ?_;have hv:=hf.value;unfold a8w;split
 ·show f.value≤3;omega
 split
 ·exact b23 (c3n c ord p hp) _
 split<;>exact d65 _ _
theorem d9m(c:Cir)(hc:c.wf)(hO:c.outs≠[])(p:Pat)(hp:PatOk c.nodes p)(f:Flt)(hf:FltOk c.nodes f)(ord:List Nat)(aG:OrdOf c ord) :
 sem L.env Mf 124 [.agg [sl c.nc (c.nodes.map Nd.enc),sl c.mc (c.names.map a1c),.nilslice,sl c.oc (c.outs.map a0f)],.agg [.int .u8 f.model,.int .i64 f.node,.int .i64 f.pin,.int .u8 f.value,.int .i64 f.other],.agg [sl p.ic (p.ins.map u8R),sl p.sc (p.sts.map u8R)]] []=some (.tuple [b0h (a1f c.outs (a5z c ord p)) (a32 c.nodes (a5z c ord p)),b0h (a1f c.outs (b4c c ord (a8u c ord f p) p)) (a7j c.nodes (a8u c ord f p) (b4c c ord (a8u c ord f p) p) (kinds c.nodes 14)),.junk,.int .i64 0],[]):=by
 have bA:=λ(d:Bool) (H:a03)=>a9b (d:=d) H c hc f hf;have eE:=λ(d:Bool) (H:a03)=>a04 (E:=L.env) (ag:=d) (call:=sem L.env Mf) (H:=H) (g:=23) (fs:=[]) (cs:=[]) (ar:=[.agg c.enc,.agg p.enc]) (by kernel_rfl) (by kernel_rfl) rfl (by simp only[e7l,e7i,a06,a0n,Cir.enc,Pat.enc,go_sem]) (c7n c hc hO p hp ord aG) (by simp only[a5f,a06,a5o,a0z,e7i];simp only[go_sem]);obtain⟨net,pin,hN,hP,eQ⟩:=d0d c f hf (a5z c ord p) (c8l _ _ _ _ _) (c3n c ord p hp);have oZ:=d8q c hc hO p hp ord aG net pin (a8u c ord f p) hN hP (c9s c ord f hf p hp);have n3:=hN.flat;have p3:=hP.flat;have bY:∀v:AV,refs v=[]→FlatR [[sl c.nc (c.nodes.map Nd.enc),sl c.mc (c.names.map a1c),.nilslice,sl c.oc (c.outs.map a0f),v,net,pin]]:=λv hv r hr=>by rw[e8k]at hr;subst hr;simp only[go_sem,hv,n3,p3]
 have nP:=bY .nilslice rfl;have i3:=bY .junk rfl;have qo:∀x0 x1 x2 x3 x4:Option AObj,a0a L.env false (sem L.env Mf) (.func (.func 161) [] []) [.agg [sl c.nc (c.nodes.map Nd.enc),sl c.mc (c.names.map a1c),.nilslice,sl c.oc (c.outs.map a0f)],.agg [.int .u8 f.model,.int .i64 f.node,.int .i64 f.pin,.int .u8 f.value,.int .i64 f.other],.islice ((a5z c ord p).map u8R) (some c.nodes.length)] [x0,x1,x2,x3,x4]=some (.ptr 5 0 0,[x0,x1,x2,x3,x4,some (.row 7 [[sl c.nc (c.nodes.map Nd.enc),sl c.mc (c.names.map a1c),.nilslice,sl c.oc (c.outs.map a0f),.nilslice,net,pin]])],[]):=λx0 x1 x2 x3 x4=>c6e (by kernel_rfl) (by kernel_rfl) rfl (by simp only[e7l,e7i,go_sem]) eQ nP;have jR:∀x0 x1 x2 x3 x4:Option AObj,a0a L.env false (sem L.env Mf) (.func (.func 120) [] []) [.ptr 5 0 0,.agg [sl p.ic (p.ins.map u8R),sl p.sc (p.sts.map u8R)]] [x0,x1,x2,x3,x4,some (.row 7 [[sl c.nc (c.nodes.map Nd.enc),sl c.mc (c.names.map a1c),.nilslice,sl c.oc (c.outs.map a0f),.nilslice,net,pin]])]=some (_,[x0,x1,x2,x3,x4,some (.row 7 [[sl c.nc (c.nodes.map Nd.enc),sl c.mc (c.names.map a1c),.nilslice,sl c.oc (c.outs.map a0f),.junk,net,pin]])],[5]):=λx0 x1 x2 x3 x4=>a2y (b:=5) (by kernel_rfl) (by kernel_rfl) rfl rfl (by simp only[go_sem,n3,p3]) (FlatO.row nP) (by simp only[e7l,e7i,go_sem]) (by simp+decide only[e7l,e7i,e12,e7j,go_sem]<;>rfl) oZ (FlatO.row i3) (a0w _ _ (a5o _ _));have s1:=a27 (a1f c.outs (a5z c ord p));have s2:=a27 (a32 c.nodes (a5z c ord p));have s3:=a27 (a1f c.outs (b4c c ord (a8u c ord f p) p));have s4:=a27 (a7j c.nodes (a8u c ord f p) (b4c c ord (a8u c ord f p) p) (kinds c.nodes 14));have q1:=a1x (a1f c.outs (a5z c ord p));have q2:=a1x (a32 c.nodes (a5z c ord p));have q3:=a1x (a1f c.outs (b4c c ord (a8u c ord f p) p));have q4:=a1x (a7j c.nodes (a8u c ord f p) (b4c c ord (a8u c ord f p) p) (kinds c.nodes 14));have m1:¬(f.model:Int)=1:=by have:=hf.model;omega
 unfold b0h at eE jR⊢;generalize a39 (a1f c.outs (a5z c ord p))=A1 at eE s1 q1⊢;generalize a39 (a32 c.nodes (a5z c ord p))=A2 at eE s2 q2⊢;generalize a39 (a1f c.outs (b4c c ord (a8u c ord f p) p))=B1 at jR s3 q3⊢;generalize a39 (a7j c.nodes (a8u c ord f p) (b4c c ord (a8u c ord f p) p) (kinds c.nodes 14))=B2 at jR s4 q4⊢;simp only[Cir.enc,Pat.enc,Flt.enc]at bA eE
 (refine sv Tryz.f124 ?_;simp only[Tryz.f124,gS])
 (repeat first|simp only[ww]|(apply xa;simp+decide only[go_sem,bA,eE,qo,jR,m1,s1,s2,s3,s4];rfl;kernel_rfl))
 refine a6s (vs:=[.agg [A1,A2],.agg [B1,B2],.junk,.int .i64 0]) (by simp+decide only[go_sem]<;>rfl) (a9a (by show(refs A1++(refs A2++[]))++((refs B1++(refs B2++[]))++_)=[];rw[q1,q2,q3,q4];rfl))
theorem d10{d:Bool}(H:a03)(c:Cir)(hc:c.wf)(hO:c.outs≠[])(p:Pat)(hp:PatOk c.nodes p)(f:Flt)(hf:FltOk c.nodes f)(ord:List Nat)(aG:OrdOf c ord) :
 a0a L.env d (sem L.env Mf) (.func (.func 124) [] []) [.agg [sl c.nc (c.nodes.map Nd.enc),sl c.mc (c.names.map a1c),.nilslice,sl c.oc (c.outs.map a0f)],.agg [.int .u8 f.model,.int .i64 f.node,.int .i64 f.pin,.int .u8 f.value,.int .i64 f.other],.agg [sl p.ic (p.ins.map u8R),sl p.sc (p.sts.map u8R)]] H=some (.tuple [b0h (a1f c.outs (a5z c ord p)) (a32 c.nodes (a5z c ord p)),b0h (a1f c.outs (b4c c ord (a8u c ord f p) p)) (a7j c.nodes (a8u c ord f p) (b4c c ord (a8u c ord f p) p) (kinds c.nodes 14)),.junk,.int .i64 0],H,[]):=
 a04 (by kernel_rfl) (by kernel_rfl) rfl (by simp only[e7l,e7i,go_sem]) (d9m c hc hO p hp f hf ord aG) (by simp only[a5f,a06,a0z,a5o,e7i];rfl)
end Go.UInst
