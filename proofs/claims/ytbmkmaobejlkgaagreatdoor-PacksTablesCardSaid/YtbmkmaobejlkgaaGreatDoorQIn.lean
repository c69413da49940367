/- Part of a proof. No condition. -/
import Derived.Test.YtbmkmaobejlkgaaGreatDoorQLg
import Derived.Test.YtbmkmaobejlkgaaGreatDoorAxD
import Derived.Test.YtbmkmaobejlkgaaGreatDoorPcB
set_option linter.unusedSimpArgs false
set_option linter.unusedVariables false
namespace Go.QInst
open Go.Proofs Go.Ax Go.Pc
set_option maxRecDepth 100000
theorem e1m(c:Cir)(X:AObj)(g n:Nat)(q:Int)(hq:q<0):sem L.env Mf 126 [.agg [sl c.nc (c.nodes.map Nd.enc),sl c.mc (c.names.map a1s),.nilslice,sl c.oc (c.outs.map a0d)],.agg [.int .i64 n,.int .i64 q],.func (.func g) [] [.ptr 0 0 0]] [some X]=some (.ptr 4 0 0,[some X,some (.row 4 [[sl c.nc (c.nodes.map Nd.enc),sl c.mc (c.names.map a1s),.nilslice,sl c.oc (c.outs.map a0d)]]),some (.row 2 [[.int .i64 n,.int .i64 q]]),some (.row 1 [[.func (.func g) [] [.ptr 0 0 0]]]),some (.row 7 [[sl c.nc (c.nodes.map Nd.enc),sl c.mc (c.names.map a1s),.nilslice,sl c.oc (c.outs.map a0d),.nilslice,.func (.func 170) [] [.ptr 2 0 0,.ptr 3 0 0],.func (.func 124) [] []]])]):=by
 have hs:AV.storable (.func (.func g) [] [.ptr 0 0 0])=true:=rfl
 (refine sv Tryz.f126 ?_;simp only[Tryz.f126,gS])
 (repeat first|simp only[ww]|(apply xa;simp+decide only[go_sem,hq,hs];rfl;kernel_rfl))
 refine a6r (vs:=[.ptr 4 0 0]) (by simp+decide only[go_sem]) ?_;simp+decide only[go_sem]<;>rfl
theorem e1l(c:Cir)(X:AObj)(g n:Nat)(q:Int)(hq:¬q<0):sem L.env Mf 126 [.agg [sl c.nc (c.nodes.map Nd.enc),sl c.mc (c.names.map a1s),.nilslice,sl c.oc (c.outs.map a0d)],.agg [.int .i64 n,.int .i64 q],.func (.func g) [] [.ptr 0 0 0]] [some X]=some (.ptr 4 0 0,[some X,some (.row 4 [[sl c.nc (c.nodes.map Nd.enc),sl c.mc (c.names.map a1s),.nilslice,sl c.oc (c.outs.map a0d)]]),some (.row 2 [[.int .i64 n,.int .i64 q]]),some (.row 1 [[.func (.func g) [] [.ptr 0 0 0]]]),some (.row 7 [[sl c.nc (c.nodes.map Nd.enc),sl c.mc (c.names.map a1s),.nilslice,sl c.oc (c.outs.map a0d),.nilslice,.func (.func 169) [] [],.func (.func 171) [] [.ptr 2 0 0,.ptr 3 0 0]]])]):=by
 have hs:AV.storable (.func (.func g) [] [.ptr 0 0 0])=true:=rfl
 (refine sv Tryz.f126 ?_;simp only[Tryz.f126,gS])
 (repeat first|simp only[ww]|(apply xa;simp+decide only[go_sem,hq,hs];rfl;kernel_rfl))
 refine a6r (vs:=[.ptr 4 0 0]) (by simp+decide only[go_sem]) ?_;simp+decide only[go_sem]<;>rfl
theorem e1k(c:Cir)(X Y:AObj)(g n:Nat)(q:Int)(hq:q<0):sem L.env Mf 126 [.agg [sl c.nc (c.nodes.map Nd.enc),sl c.mc (c.names.map a1s),.nilslice,sl c.oc (c.outs.map a0d)],.agg [.int .i64 n,.int .i64 q],.func (.func g) [] [.ptr 0 0 0,.ptr 1 0 0]] [some X,some Y]=some (.ptr 5 0 0,[some X,some Y,some (.row 4 [[sl c.nc (c.nodes.map Nd.enc),sl c.mc (c.names.map a1s),.nilslice,sl c.oc (c.outs.map a0d)]]),some (.row 2 [[.int .i64 n,.int .i64 q]]),some (.row 1 [[.func (.func g) [] [.ptr 0 0 0,.ptr 1 0 0]]]),some (.row 7 [[sl c.nc (c.nodes.map Nd.enc),sl c.mc (c.names.map a1s),.nilslice,sl c.oc (c.outs.map a0d),.nilslice,.func (.func 170) [] [.ptr 3 0 0,.ptr 4 0 0],.func (.func 124) [] []]])]):=by
 have hs:AV.storable (.func (.func g) [] [.ptr 0 0 0,.ptr 1 0 0])=true:=rfl
 (refine sv Tryz.f126 ?_;simp only[Tryz.f126,gS])
 (repeat first|simp only[ww]|(apply xa;simp+decide only[go_sem,hq,hs];rfl;kernel_rfl))
 refine a6r (vs:=[.ptr 5 0 0]) (by simp+decide only[go_sem]) ?_;simp+decide only[go_sem]<;>rfl
structure NetN(v:AV)(g:Nat→Nat→Nat):Prop where
 flat:refs v=[]
 sto:v.storable=true
 nn:b05 v=some v
 call:∀(d:Bool) (H:a02) (n w:Nat),a09 L.env d (sem L.env Mf) v [.int .i64 n,.int .u8 w] H=some (.int .u8 (g n w),H,[])
structure PinN(v:AV)(g:Nat→Nat→Nat→Nat):Prop where
 flat:refs v=[]
 sto:v.storable=true
 nn:b05 v=some v
 call:∀(d:Bool) (H:a02) (n p w:Nat),a09 L.env d (sem L.env Mf) v [.int .i64 n,.int .i64 p,.int .u8 w] H=some (.int .u8 (g n p w),H,[])
theorem d52(n:Int)(w:Nat):sem L.env Mf 169 [.int .i64 n,.int .u8 w] []=some (.int .u8 w,[]):=by
 (refine sv Tryz.f169 ?_;simp only[Tryz.f169,gS])
 (repeat first|simp only[ww]|(apply xa;simp+decide only[go_sem];rfl;kernel_rfl))
 (apply fqb;simp+decide only[go_sem]<;>rfl)
theorem d54(n p:Int)(w:Nat):sem L.env Mf 124 [.int .i64 n,.int .i64 p,.int .u8 w] []=some (.int .u8 w,[]):=by
 (refine sv Tryz.f124 ?_;simp only[Tryz.f124,gS])
 (repeat first|simp only[ww]|(apply xa;simp+decide only[go_sem];rfl;kernel_rfl))
 (apply fqb;simp+decide only[go_sem]<;>rfl)
theorem e9d:NetN (.func (.func 169) [] []) (λ_ w=>w):=⟨rfl,rfl,rfl,λd H n w=>a04 (by kernel_rfl) (by kernel_rfl) rfl rfl (d52 n w) rfl⟩
theorem d9k:PinN (.func (.func 124) [] []) (λ_ _ w=>w):=⟨rfl,rfl,rfl,λd H n p w=>a04 (by kernel_rfl) (by kernel_rfl) rfl rfl (d54 n p w) rfl⟩
theorem nI{a b:Nat}(h:a≠b):¬(a:Int)=b:=by omega
theorem d34(n w a b v:Nat):sem L.env Mf 125 [.int .i64 n,.int .u8 w,.iptr [.int .i64 a],.iptr [.int .i64 b],.iptr [.int .u8 v]] []=some (.int .u8 (if n=a∨n=b then v else w:Nat),[]):=by
 by_cases h1:n=a
 ·subst h1;rw[f1r (.inl rfl)]
  (refine sv Tryz.f125 ?_;simp only[Tryz.f125,gS])
  (repeat first|simp only[ww]|(apply xa;simp+decide only[go_sem];rfl;kernel_rfl))
  (apply fqb;simp+decide only[go_sem]<;>rfl)
 by_cases h2:n=b
 ·subst h2;rw[f1r (.inr rfl)];have h1:=nI h1
  (refine sv Tryz.f125 ?_;simp only[Tryz.f125,gS])
  (repeat first|simp only[ww]|(apply xa;simp+decide only[go_sem,h1];rfl;kernel_rfl))
  (apply fqb;simp+decide only[go_sem]<;>rfl)
 ·rw[f0j (by omega)];have h1:=nI h1;have h2:=nI h2
  (refine sv Tryz.f125 ?_;simp only[Tryz.f125,gS])
  (repeat first|simp only[ww]|(apply xa;simp+decide only[go_sem,h1,h2];rfl;kernel_rfl))
  (apply fqb;simp+decide only[go_sem]<;>rfl)
theorem c86(w:Nat)(G:List Nat)(b v m:Nat)(hb:G[b]?=some v)(hm:m=G.length):sem L.env Mf 127 [.int .u8 w,.iptr [.islice (G.map u8R) (some m)],.iptr [.int .i64 b]] []=some (.int .u8 v,[]):=by
 have ag:=(e9k.1 hb).1
 (refine sv Tryz.f127 ?_;simp only[Tryz.f127,gS])
 (repeat first|simp only[ww]|(apply xa;simp+decide only[go_sem,hb,ag];rfl;kernel_rfl))
 (apply fqb;simp+decide only[go_sem]<;>rfl)
theorem d3f(w:Nat)(f:Flt):sem L.env Mf 128 [.int .u8 w,.iptr [.int .u8 f.model,.int .i64 f.node,.int .i64 f.pin,.int .u8 f.value,.int .i64 f.other]] []=some (.int .u8 f.value,[]):=by
 (refine sv Tryz.f128 ?_;simp only[Tryz.f128,gS])
 (repeat first|simp only[ww]|(apply xa;simp+decide only[go_sem];rfl;kernel_rfl))
 (apply fqb;simp+decide only[go_sem]<;>rfl)
def c5f(fV:AV)(v:Nat):Prop:=refs fV=[]∧∀(d:Bool) (H:a02) (w:Nat),a09 L.env d (sem L.env Mf) fV [.int .u8 w] H=some (.int .u8 v,H,[])
theorem d8c(n w a v:Nat)(q:Int)(fV:AV)(hf:c5f fV v)(aw:fV.storable=true):sem L.env Mf 170 [.int .i64 n,.int .u8 w,.iptr [.int .i64 a,.int .i64 q],.iptr [fV]] []=some (.int .u8 (if n=a then v else w:Nat),[]):=by
 have hc:=hf.2;by_cases h1:n=a
 ·subst h1;rw[f1r rfl]
  (refine sv Tryz.f170 ?_;simp only[Tryz.f170,gS])
  (repeat first|simp only[ww]|(apply xa;simp+decide only[go_sem,hc];rfl;kernel_rfl))
  (apply fqb;simp+decide only[go_sem]<;>rfl)
 ·rw[f0j h1];have h1:=nI h1
  (refine sv Tryz.f170 ?_;simp only[Tryz.f170,gS])
  (repeat first|simp only[ww]|(apply xa;simp+decide only[go_sem,h1];rfl;kernel_rfl))
  (apply fqb;simp+decide only[go_sem]<;>rfl)
theorem e67(n p w a v:Nat)(q:Int)(fV:AV)(hf:c5f fV v):sem L.env Mf 171 [.int .i64 n,.int .i64 p,.int .u8 w,.iptr [.int .i64 a,.int .i64 q],.iptr [fV]] []=some (.int .u8 (if n=a∧(p:Int)=q then v else w:Nat),[]):=by
 have hc:=hf.2;by_cases h1:n=a
 ·subst h1;by_cases h2:(p:Int)=q
  ·subst h2;rw[f1r ⟨rfl,rfl⟩]
   (refine sv Tryz.f171 ?_;simp only[Tryz.f171,gS])
   (repeat first|simp only[ww]|(apply xa;simp+decide only[go_sem,hc];rfl;kernel_rfl))
   (apply fqb;simp+decide only[go_sem]<;>rfl)
  ·rw[f0j (λh=>h2 h.2)]
   (refine sv Tryz.f171 ?_;simp only[Tryz.f171,gS])
   (repeat first|simp only[ww]|(apply xa;simp+decide only[go_sem,h2];rfl;kernel_rfl))
   (apply fqb;simp+decide only[go_sem]<;>rfl)
 ·rw[f0j (λh=>h1 h.1)];have h1:=nI h1
  (refine sv Tryz.f171 ?_;simp only[Tryz.f171,gS])
  (repeat first|simp only[ww]|(apply xa;simp+decide only[go_sem,h1];rfl;kernel_rfl))
  (apply fqb;simp+decide only[go_sem]<;>rfl)
theorem e46(a b k:Nat)(hk:k<16):sem L.env Mf 168 [.int .u8 a,.int .u8 b,.iptr [.int .u8 k]] []=some (.int .u8 (a41 k [a,b]:Nat),[]):=by
 have eO:=λ(d:Bool)=>c0b (d:=d) (H:=[some (.row 1 [[.int .u8 a],[.int .u8 b]])]) (b:=0) k hk [a,b] (by simp) (some 2) [[.int .u8 a],[.int .u8 b]] (λr hr=>by simp at hr;rcases hr with rfl|rfl<;>rfl) rfl rfl (m:=2) rfl;generalize a41 k [a,b]=w at eO
 (refine sv Tryz.f168 ?_;simp only[Tryz.f168,gS])
 (repeat first|simp only[ww]|(apply xa;simp+decide only[go_sem,eO];rfl;kernel_rfl))
 (apply fqb;simp+decide only[go_sem]<;>rfl)
theorem c22(v:Nat)(k:Nat)(hk:k=if v=1 then 7 else 5):sem L.env Mf 123 [.int .u8 v] []=some (.func (.func 168) [] [.iptr [.int .u8 k]],[]):=by
 subst hk;by_cases h:v=1
 ·have h1:(v:Int)=1:=by omega
  rw[f1r h]
  (refine sv Tryz.f123 ?_;simp only[Tryz.f123,gS])
  (repeat first|simp only[ww]|(apply xa;simp+decide only[go_sem,h1];rfl;kernel_rfl))
  (apply fqb;simp+decide only[go_sem]<;>rfl)
 ·have h1:¬(v:Int)=1:=by omega
  rw[f0j h]
  (refine sv Tryz.f123 ?_;simp only[Tryz.f123,gS])
  (repeat first|simp only[ww]|(apply xa;simp+decide only[go_sem,h1];rfl;kernel_rfl))
  (apply fqb;simp+decide only[go_sem]<;>rfl)
set_option maxHeartbeats 200000000
theorem e69(c:Cir)(f:Flt)(G:List Nat)(hq:f.pin<0):a09 L.env false (sem L.env Mf) (.func (.func 126) [] []) [.agg [sl c.nc (c.nodes.map Nd.enc),sl c.mc (c.names.map a1s),.nilslice,sl c.oc (c.outs.map a0d)],.agg [.int .i64 f.node,.int .i64 f.pin],.func (.func 128) [] [.ptr 1 0 0]] [some (.row 4 [[sl c.nc (c.nodes.map Nd.enc),sl c.mc (c.names.map a1s),.nilslice,sl c.oc (c.outs.map a0d)]]),some (.row 5 [[.int .u8 f.model,.int .i64 f.node,.int .i64 f.pin,.int .u8 f.value,.int .i64 f.other]]),some (.row 1 [[.islice (G.map u8R) (some c.nodes.length)]]),some (.row 1 [[.int .i64 f.node]]),some (.row 1 [[.int .i64 f.other]])]=some (.ptr 8 0 0,[some (.row 4 [[sl c.nc (c.nodes.map Nd.enc),sl c.mc (c.names.map a1s),.nilslice,sl c.oc (c.outs.map a0d)]]),some (.row 5 [[.int .u8 f.model,.int .i64 f.node,.int .i64 f.pin,.int .u8 f.value,.int .i64 f.other]]),some (.row 1 [[.islice (G.map u8R) (some c.nodes.length)]]),some (.row 1 [[.int .i64 f.node]]),some (.row 1 [[.int .i64 f.other]]),some (.row 4 [[sl c.nc (c.nodes.map Nd.enc),sl c.mc (c.names.map a1s),.nilslice,sl c.oc (c.outs.map a0d)]]),some (.row 2 [[.int .i64 f.node,.int .i64 f.pin]]),some (.row 1 [[.func (.func 128) [] [.ptr 1 0 0]]]),some (.row 7 [[sl c.nc (c.nodes.map Nd.enc),sl c.mc (c.names.map a1s),.nilslice,sl c.oc (c.outs.map a0d),.nilslice,.func (.func 170) [] [.ptr 6 0 0,.ptr 7 0 0],.func (.func 124) [] []]])],[1]):=by have h:=e1m c (.row 5 [[.int .u8 f.model,.int .i64 f.node,.int .i64 f.pin,.int .u8 f.value,.int .i64 f.other]]) 128 f.node f.pin hq;refine a85 (by kernel_rfl) (by kernel_rfl) rfl ((a12 (sem L.env Mf 126) _ [some (.row 4 [[sl c.nc (c.nodes.map Nd.enc),sl c.mc (c.names.map a1s),.nilslice,sl c.oc (c.outs.map a0d)]]),some (.row 5 [[.int .u8 f.model,.int .i64 f.node,.int .i64 f.pin,.int .u8 f.value,.int .i64 f.other]]),some (.row 1 [[.islice (G.map u8R) (some c.nodes.length)]]),some (.row 1 [[.int .i64 f.node]]),some (.row 1 [[.int .i64 f.other]])] (σ:=[1]) (by simp+decide only[go_sem]) rfl rfl (by simp+decide only[go_sem]<;>rfl) (by simp+decide only[go_sem]<;>rfl) h).trans ?_);simp+decide only[go_sem]<;>rfl
theorem e68(c:Cir)(f:Flt)(G:List Nat)(hq:¬f.pin<0):a09 L.env false (sem L.env Mf) (.func (.func 126) [] []) [.agg [sl c.nc (c.nodes.map Nd.enc),sl c.mc (c.names.map a1s),.nilslice,sl c.oc (c.outs.map a0d)],.agg [.int .i64 f.node,.int .i64 f.pin],.func (.func 128) [] [.ptr 1 0 0]] [some (.row 4 [[sl c.nc (c.nodes.map Nd.enc),sl c.mc (c.names.map a1s),.nilslice,sl c.oc (c.outs.map a0d)]]),some (.row 5 [[.int .u8 f.model,.int .i64 f.node,.int .i64 f.pin,.int .u8 f.value,.int .i64 f.other]]),some (.row 1 [[.islice (G.map u8R) (some c.nodes.length)]]),some (.row 1 [[.int .i64 f.node]]),some (.row 1 [[.int .i64 f.other]])]=some (.ptr 8 0 0,[some (.row 4 [[sl c.nc (c.nodes.map Nd.enc),sl c.mc (c.names.map a1s),.nilslice,sl c.oc (c.outs.map a0d)]]),some (.row 5 [[.int .u8 f.model,.int .i64 f.node,.int .i64 f.pin,.int .u8 f.value,.int .i64 f.other]]),some (.row 1 [[.islice (G.map u8R) (some c.nodes.length)]]),some (.row 1 [[.int .i64 f.node]]),some (.row 1 [[.int .i64 f.other]]),some (.row 4 [[sl c.nc (c.nodes.map Nd.enc),sl c.mc (c.names.map a1s),.nilslice,sl c.oc (c.outs.map a0d)]]),some (.row 2 [[.int .i64 f.node,.int .i64 f.pin]]),some (.row 1 [[.func (.func 128) [] [.ptr 1 0 0]]]),some (.row 7 [[sl c.nc (c.nodes.map Nd.enc),sl c.mc (c.names.map a1s),.nilslice,sl c.oc (c.outs.map a0d),.nilslice,.func (.func 169) [] [],.func (.func 171) [] [.ptr 6 0 0,.ptr 7 0 0]]])],[1]):=by have h:=e1l c (.row 5 [[.int .u8 f.model,.int .i64 f.node,.int .i64 f.pin,.int .u8 f.value,.int .i64 f.other]]) 128 f.node f.pin hq;refine a85 (by kernel_rfl) (by kernel_rfl) rfl ((a12 (sem L.env Mf 126) _ [some (.row 4 [[sl c.nc (c.nodes.map Nd.enc),sl c.mc (c.names.map a1s),.nilslice,sl c.oc (c.outs.map a0d)]]),some (.row 5 [[.int .u8 f.model,.int .i64 f.node,.int .i64 f.pin,.int .u8 f.value,.int .i64 f.other]]),some (.row 1 [[.islice (G.map u8R) (some c.nodes.length)]]),some (.row 1 [[.int .i64 f.node]]),some (.row 1 [[.int .i64 f.other]])] (σ:=[1]) (by simp+decide only[go_sem]) rfl rfl (by simp+decide only[go_sem]<;>rfl) (by simp+decide only[go_sem]<;>rfl) h).trans ?_);simp+decide only[go_sem]<;>rfl
theorem e6a(c:Cir)(f:Flt)(G:List Nat)(hq:f.pin<0):a09 L.env false (sem L.env Mf) (.func (.func 126) [] []) [.agg [sl c.nc (c.nodes.map Nd.enc),sl c.mc (c.names.map a1s),.nilslice,sl c.oc (c.outs.map a0d)],.agg [.int .i64 f.node,.int .i64 f.pin],.func (.func 127) [] [.ptr 2 0 0,.ptr 4 0 0]] [some (.row 4 [[sl c.nc (c.nodes.map Nd.enc),sl c.mc (c.names.map a1s),.nilslice,sl c.oc (c.outs.map a0d)]]),some (.row 5 [[.int .u8 f.model,.int .i64 f.node,.int .i64 f.pin,.int .u8 f.value,.int .i64 f.other]]),some (.row 1 [[.islice (G.map u8R) (some c.nodes.length)]]),some (.row 1 [[.int .i64 f.node]]),some (.row 1 [[.int .i64 f.other]])]=some (.ptr 8 0 0,[some (.row 4 [[sl c.nc (c.nodes.map Nd.enc),sl c.mc (c.names.map a1s),.nilslice,sl c.oc (c.outs.map a0d)]]),some (.row 5 [[.int .u8 f.model,.int .i64 f.node,.int .i64 f.pin,.int .u8 f.value,.int .i64 f.other]]),some (.row 1 [[.islice (G.map u8R) (some c.nodes.length)]]),some (.row 1 [[.int .i64 f.node]]),some (.row 1 [[.int .i64 f.other]]),some (.row 4 [[sl c.nc (c.nodes.map Nd.enc),sl c.mc (c.names.map a1s),.nilslice,sl c.oc (c.outs.map a0d)]]),some (.row 2 [[.int .i64 f.node,.int .i64 f.pin]]),some (.row 1 [[.func (.func 127) [] [.ptr 2 0 0,.ptr 4 0 0]]]),some (.row 7 [[sl c.nc (c.nodes.map Nd.enc),sl c.mc (c.names.map a1s),.nilslice,sl c.oc (c.outs.map a0d),.nilslice,.func (.func 170) [] [.ptr 6 0 0,.ptr 7 0 0],.func (.func 124) [] []]])],[2,4]):=by have h:=e1k c (.row 1 [[.islice (G.map u8R) (some c.nodes.length)]]) (.row 1 [[.int .i64 f.other]]) 127 f.node f.pin hq;refine a85 (by kernel_rfl) (by kernel_rfl) rfl ((a12 (sem L.env Mf 126) _ [some (.row 4 [[sl c.nc (c.nodes.map Nd.enc),sl c.mc (c.names.map a1s),.nilslice,sl c.oc (c.outs.map a0d)]]),some (.row 5 [[.int .u8 f.model,.int .i64 f.node,.int .i64 f.pin,.int .u8 f.value,.int .i64 f.other]]),some (.row 1 [[.islice (G.map u8R) (some c.nodes.length)]]),some (.row 1 [[.int .i64 f.node]]),some (.row 1 [[.int .i64 f.other]])] (σ:=[2,4]) (by simp+decide only[go_sem]) rfl rfl (by simp+decide only[go_sem]<;>rfl) (by simp+decide only[go_sem]<;>rfl) h).trans ?_);simp+decide only[go_sem]<;>rfl
def b1p(c:Cir)(nets net pin:AV):AObj:=.row 7 [[sl c.nc (c.nodes.map Nd.enc),sl c.mc (c.names.map a1s),.nilslice,sl c.oc (c.outs.map a0d),nets,net,pin]]
theorem d1c(c:Cir)(f:Flt)(hf:FltOk c.nodes f)(G:List Nat)(hG:G.length=c.nodes.length)(lN:∀v∈G,v≤3):∃net pin,NetN net (hkF f (a20 nAlg G f)).net∧PinN pin (hkF f (a20 nAlg G f)).pin∧
 sem L.env Mf 88 [.agg [sl c.nc (c.nodes.map Nd.enc),sl c.mc (c.names.map a1s),.nilslice,sl c.oc (c.outs.map a0d)],.agg [.int .u8 f.model,.int .i64 f.node,.int .i64 f.pin,.int .u8 f.value,.int .i64 f.other],.islice (G.map u8R) (some c.nodes.length)] []=some (.ptr 0 0 0,[some (b1p c .nilslice net pin)]):=by
 rcases hf.model with hm|hm|hm
 · -- stuck
  have hv:a20 nAlg G f=f.value:=by unfold a20;rw[f1r hm];rfl
  have m0:¬(f.model:Int)=2:=by omega
  have m1:¬(f.model:Int)=3:=by omega
  have hc:c5f (.func (.func 128) [] [.iptr [.int .u8 f.model,.int .i64 f.node,.int .i64 f.pin,.int .u8 f.value,.int .i64 f.other]]) f.value:=⟨rfl,λd H w=>a04 (by kernel_rfl) (by kernel_rfl) rfl rfl (d3f w f) rfl⟩
  rw[hv];by_cases hq:f.pin<0
  ·have aW:=e69 c f G hq;refine⟨.func (.func 170) [] [.iptr [.int .i64 f.node,.int .i64 f.pin],.iptr [.func (.func 128) [] [.iptr [.int .u8 f.model,.int .i64 f.node,.int .i64 f.pin,.int .u8 f.value,.int .i64 f.other]]]],.func (.func 124) [] [],⟨rfl,rfl,rfl,λd H n w=>?_⟩,?_,?_⟩
   ·have h1:=a04 (E:=L.env) (ah:=d) (call:=sem L.env Mf) (H:=H) (g:=170) (fs:=[]) (ar:=[.int .i64 n,.int .u8 w]) (cs:=[.iptr [.int .i64 f.node,.int .i64 f.pin],.iptr [.func (.func 128) [] [.iptr [.int .u8 f.model,.int .i64 f.node,.int .i64 f.pin,.int .u8 f.value,.int .i64 f.other]]]]) (by kernel_rfl) (by kernel_rfl) rfl rfl (d8c n w f.node f.value f.pin _ hc rfl) rfl;rw[h1];have:(if n=f.node then f.value else w)=(hkF f f.value).net n w:=by
     unfold hkF Flt.hitsNet;have h2:¬f.model=2:=by omega
     simp[hq,h2]
    rw[this]
   ·have:(hkF f f.value).pin=λ_ _ w=>w:=by
     funext n p w;unfold hkF Flt.hitsPin
     have:¬0≤f.pin:=by omega
     simp[this]
    rw[this];exact d9k
   ·(refine sv Tryz.f88 ?_;simp only[Tryz.f88,gS])
    (repeat first|simp only[ww]|(apply xa;simp+decide only[go_sem,m0,m1,aW];rfl;kernel_rfl))
    refine a6r (vs:=[.ptr 8 0 0]) (by simp+decide only[go_sem]) ?_;unfold b1p;simp+decide only[go_sem]<;>rfl
  ·have aW:=e68 c f G hq;refine⟨.func (.func 169) [] [],.func (.func 171) [] [.iptr [.int .i64 f.node,.int .i64 f.pin],.iptr [.func (.func 128) [] [.iptr [.int .u8 f.model,.int .i64 f.node,.int .i64 f.pin,.int .u8 f.value,.int .i64 f.other]]]],?_,⟨rfl,rfl,rfl,λd H n p w=>?_⟩,?_⟩
   ·have:(hkF f f.value).net=λ_ w=>w:=by
     funext n w;unfold hkF Flt.hitsNet
     simp[hq]
    rw[this];exact e9d
   ·have h1:=a04 (E:=L.env) (ah:=d) (call:=sem L.env Mf) (H:=H) (g:=171) (fs:=[]) (ar:=[.int .i64 n,.int .i64 p,.int .u8 w]) (cs:=[.iptr [.int .i64 f.node,.int .i64 f.pin],.iptr [.func (.func 128) [] [.iptr [.int .u8 f.model,.int .i64 f.node,.int .i64 f.pin,.int .u8 f.value,.int .i64 f.other]]]]) (by kernel_rfl) (by kernel_rfl) rfl rfl (e67 n p w f.node f.value f.pin _ hc) rfl;rw[h1];have:(if n=f.node∧(p:Int)=f.pin then f.value else w)=(hkF f f.value).pin n p w:=by
     unfold hkF Flt.hitsPin;have:0≤f.pin:=by omega
     simp[this]
    rw[this]
   ·(refine sv Tryz.f88 ?_;simp only[Tryz.f88,gS])
    (repeat first|simp only[ww]|(apply xa;simp+decide only[go_sem,m0,m1,aW];rfl;kernel_rfl))
    refine a6r (vs:=[.ptr 8 0 0]) (by simp+decide only[go_sem]) ?_;unfold b1p;simp+decide only[go_sem]<;>rfl
 · -- wired
  have hb:=hf.bridge (by omega);have m0:(f.model:Int)=2:=by omega
  obtain⟨va,fJ⟩:∃v,G[f.node]?=some v:=⟨_,z9e (by rw[hG];exact hf.node)⟩
  obtain⟨vb,jb⟩:∃v,G[f.other]?=some v:=⟨_,z9e (by rw[hG];exact hf.other)⟩
  obtain⟨k,hk⟩:∃k,k=if f.value=1 then 7 else 5:=⟨_,rfl⟩
  have bw:k<16:=by rw[hk];split<;>omega
  have hv:a20 nAlg G f=a41 k [va,vb]:=by
   have h1:¬f.model=0:=by omega
   have h2:¬f.model=3:=by omega
   have h3:=hf.value;have e:∀k,nAlg.ev k [G.getD f.node nAlg.z,G.getD f.other nAlg.z]=a41 k [va,vb]:=λk=>by
    show a41 k (([G.getD f.node 0,G.getD f.other 0]:List Nat).map a2n)=_;rw[List.getD,fJ,List.getD,jb]
    congr 1
    exact b3e (λv hv=>by simp at hv;rcases hv with rfl|rfl;exact lN _ (c10 fJ);exact lN _ (c10 jb))
   unfold a20;rw[f0j h1,f0j h2];by_cases h4:f.value=0
   ·rw[f1r h4,e,hk,f0j (by omega)]
   ·rw[f0j h4,e,hk,f1r (by omega)]
  have fj:=λ(d:Bool) (H:a02)=>a04 (E:=L.env) (ah:=d) (call:=sem L.env Mf) (H:=H) (g:=123) (fs:=[]) (ar:=[.int .u8 f.value]) (cs:=[]) (by kernel_rfl) (by kernel_rfl) rfl rfl (c22 f.value k hk) rfl;have jc:=λ(d:Bool) (H:a02)=>a04 (E:=L.env) (ah:=d) (call:=sem L.env Mf) (H:=H) (g:=168) (fs:=[]) (ar:=[.int .u8 va,.int .u8 vb]) (cs:=[.iptr [.int .u8 k]]) (by kernel_rfl) (by kernel_rfl) rfl rfl (e46 va vb k bw) rfl;rw[hv];generalize a41 k [va,vb]=w0 at jc⊢;have bv:=hf.node;have dO:=hf.other;refine⟨.func (.func 125) [] [.iptr [.int .i64 f.node],.iptr [.int .i64 f.other],.iptr [.int .u8 w0]],.func (.func 124) [] [],⟨rfl,rfl,rfl,λd H n w=>?_⟩,?_,?_⟩
  ·have h1:=a04 (E:=L.env) (ah:=d) (call:=sem L.env Mf) (H:=H) (g:=125) (fs:=[]) (ar:=[.int .i64 n,.int .u8 w]) (cs:=[.iptr [.int .i64 f.node],.iptr [.int .i64 f.other],.iptr [.int .u8 w0]]) (by kernel_rfl) (by kernel_rfl) rfl rfl (d34 n w f.node f.other w0) rfl;rw[h1];have:(if n=f.node∨n=f.other then w0 else w)=(hkF f w0).net n w:=by
    unfold hkF Flt.hitsNet;simp[hb.1,hm]
   rw[this]
  ·have:(hkF f w0).pin=λ_ _ w=>w:=by
    funext n p w;unfold hkF Flt.hitsPin
    simp[hb.1]
   rw[this];exact d9k
  ·(refine sv Tryz.f88 ?_;simp only[Tryz.f88,gS])
   (repeat first|simp only[ww]|(apply xa;simp+decide only[go_sem,m0,fj,jc,fJ,jb,hG,bv,dO];rfl;kernel_rfl))
   refine a6r (vs:=[.ptr 6 0 0]) (by simp+decide only[go_sem]) ?_;unfold b1p;simp+decide only[go_sem]<;>rfl
 · -- strong
  have hb:=hf.bridge (by omega);have hq:f.pin<0:=by rw[hb.1];decide
  have m0:¬(f.model:Int)=2:=by omega
  have m1:(f.model:Int)=3:=by omega
  obtain⟨vb,jb⟩:∃v,G[f.other]?=some v:=⟨_,z9e (by rw[hG];exact hf.other)⟩
  have hv:a20 nAlg G f=vb:=by unfold a20;rw[f0j (by omega),f1r hm,List.getD,jb];rfl
  have aW:=e6a c f G hq;rw[m1]at aW;have hc:c5f (.func (.func 127) [] [.iptr [.islice (G.map u8R) (some c.nodes.length)],.iptr [.int .i64 f.other]]) vb:=⟨rfl,λd H w=>a04 (by kernel_rfl) (by kernel_rfl) rfl rfl (c86 w G f.other vb c.nodes.length jb hG.symm) rfl⟩
  rw[hv];refine⟨.func (.func 170) [] [.iptr [.int .i64 f.node,.int .i64 f.pin],.iptr [.func (.func 127) [] [.iptr [.islice (G.map u8R) (some c.nodes.length)],.iptr [.int .i64 f.other]]]],.func (.func 124) [] [],⟨rfl,rfl,rfl,λd H n w=>?_⟩,?_,?_⟩
  ·have h1:=a04 (E:=L.env) (ah:=d) (call:=sem L.env Mf) (H:=H) (g:=170) (fs:=[]) (ar:=[.int .i64 n,.int .u8 w]) (cs:=[.iptr [.int .i64 f.node,.int .i64 f.pin],.iptr [.func (.func 127) [] [.iptr [.islice (G.map u8R) (some c.nodes.length)],.iptr [.int .i64 f.other]]]]) (by kernel_rfl) (by kernel_rfl) rfl rfl (d8c n w f.node vb f.pin _ hc rfl) rfl;rw[h1];have:(if n=f.node then vb else w)=(hkF f vb).net n w:=by
    unfold hkF Flt.hitsNet;have h2:¬f.model=2:=by omega
    simp[hq,h2]
   rw[this]
  ·have:(hkF f vb).pin=λ_ _ w=>w:=by
    funext n p w;unfold hkF Flt.hitsPin
    have:¬0≤f.pin:=by omega
    simp[this]
   rw[this];exact d9k
  ·(refine sv Tryz.f88 ?_;simp only[Tryz.f88,gS])
   (repeat first|simp only[ww]|(apply xa;simp+decide only[go_sem,m0,m1,aW];rfl;kernel_rfl))
   refine a6r (vs:=[.ptr 8 0 0]) (by simp+decide only[go_sem]) ?_;unfold b1p;simp+decide only[go_sem]<;>rfl
attribute [go_sem] b1p
theorem e5i{m:Nat}{d:AV→Option AV}(l:List Nat):a8m m d (l.map u8R)=some (l.map u8R):=a1g m d (a2b l)
theorem d0h(c:Cir)(hc:c.wf)(net pin:AV)(g:Hk Nat)(h1:refs net=[])(h2:PinN pin g.pin)(nets:List Nat)(hl:nets.length=c.nodes.length)(n:Nat)(hn:n<c.nodes.length) :
 sem L.env Mf 130 [.ptr 0 0 0,.int .i64 n] [some (b1p c (.slice 1 0 c.nodes.length (some c.nodes.length)) net pin),some (.row 1 (nets.map u8R))]=some (sl none ((a11 nAlg c.nodes g nets n).map u8R),[some (b1p c (.slice 1 0 c.nodes.length (some c.nodes.length)) net pin),some (.row 1 (nets.map u8R))]):=by
 have ef:=hc.len;obtain⟨x,hx⟩:∃x,c.nodes[n]?=some x:=⟨_,z9e hn⟩
 have dy:=c10 hx;have cW:=hc.insl dy;have dD:(a11 nAlg c.nodes g nets n).length=x.ins.length:=by rw[a6j,a1o hx]
 have h3:=h2.flat;have e1:∀π,ren π net=net:=λπ=>a0x π _ h1;have e2:∀π,ren π pin=pin:=λπ=>a0x π _ h3;have oM:=h2.call;unfold b1p
 (refine sv Tryz.f130 ?_;simp only[Tryz.f130,gS])
 (repeat first|simp only[ww]|(apply xa;simp+decide only[go_sem,hx,hn];rfl;kernel_rfl))
 refine a1j (σ:=Nat) kp130_0 (λi=>[(0,.ptr 0 0 0),(1,.int .i64 n),(5,grV 2 (((a11 nAlg c.nodes g nets n).take i).map u8R)),(16,sl x.c (x.ins.map a0d)),(17,.int .i64 x.ins.length),(18,.int .i64 i)])
  (λi=>[some (.row 7 [[sl c.nc (c.nodes.map Nd.enc),sl c.mc (c.names.map a1s),.nilslice,sl c.oc (c.outs.map a0d),.slice 1 0 c.nodes.length (some c.nodes.length),net,pin]]),some (.row 1 (nets.map u8R))]++grH 1 (((a11 nAlg c.nodes g nets n).take i).map u8R)) (λi=>x.ins.length-i) (λi=>i≤x.ins.length) 0 ?_ (f0h _) ?_
 ·(simp+decide only[go_sem,a03,a00,f2q,e9p,a0q,a0r,h1,h3,e1,e2,a2h,a2u]<;>rfl)
 ·intro i hi;by_cases ag:i<x.ins.length
  ·obtain⟨m,hm⟩:∃m,x.ins[i]?=some m:=⟨_,z9e ag⟩
   have dL:=hc.ins x dy m (c10 hm);obtain⟨w,hw⟩:∃w,nets[m]?=some w:=⟨_,z9e (by omega)⟩
   have c1:(i:Int)<x.ins.length:=by omega
   have bO:=wI1 (n:=i) (by omega);have hs:=b5u (A:=nAlg) (h:=g) (nets:=nets) (by rw[a1o hx];exact hm) hw;have cU:((a11 nAlg c.nodes g nets n).take i).length=i:=by rw[f3f];omega
   generalize(a11 nAlg c.nodes g nets n).take i=T at hs cU;cases T with
   |nil=>
    (repeat first|simp only[ww]|(apply xa;simp+decide only[go_sem,c1,ag,hm,dL,hw,bO,oM,hl,e9p,a0q,a0r];rfl;kernel_rfl))
    refine a4g (i+1) ?_ (by omega) (by omega);rw[hs]
    (simp+decide only[go_sem,a03,a00,e12,e9p,e9q,a06,a07,f0g,h1,h3,e1,e2,a2h,a2u]<;>rfl)
   |cons a r=>
    simp only[e9m]at cU;have aO:r.length+1+1≤1000000000:=by omega
    (repeat first|simp only[ww]|(apply xa;simp+decide only[go_sem,c1,ag,hm,dL,hw,bO,oM,hl,e12,a06,a07,aO,e9m];rfl;kernel_rfl))
    refine a4g (i+1) ?_ (by omega) (by omega);rw[hs]
    (simp+decide only[go_sem,a03,a00,e12,e9p,f0k,a06,a07,e9m,h1,h3,e1,e2,a2h,a2u]<;>rfl)
  ·obtain rfl:i=x.ins.length:=by omega
   have c1:¬(x.ins.length:Int)<x.ins.length:=by omega
   rw[f0f (by omega)];generalize a11 nAlg c.nodes g nets n=T;cases T with
   |nil=>
    (repeat first|simp only[ww]|(apply xa;simp+decide only[go_sem,c1,e9p,a0q,a0r];rfl;kernel_rfl))
    (apply fqb;simp+decide only[go_sem,a2u,e9p,e1,e2]<;>rfl)
   |cons a r=>
    (repeat first|simp only[ww]|(apply xa;simp+decide only[go_sem,c1,e12,a06,a07];rfl;kernel_rfl))
    (apply fqb;simp+decide only[go_sem,a2u,e5i,e12,a7t,e1,e2]<;>rfl)
theorem c4v(c:Cir)(net pin:AV)(h1:refs net=[])(h2:refs pin=[]):a0o (some (b1p c (.slice 1 0 c.nodes.length (some c.nodes.length)) net pin))=[1]:=by simp+decide only[go_sem,h1,h2]
theorem b8j(c:Cir)(net pin:AV)(h1:refs net=[])(h2:refs pin=[])(π:Nat→Option Nat)(hπ:π 1=some 1):a0g π (b1p c (.slice 1 0 c.nodes.length (some c.nodes.length)) net pin)=b1p c (.slice 1 0 c.nodes.length (some c.nodes.length)) net pin:=by have e1:∀π,ren π net=net:=λπ=>a0x π _ h1;have e2:∀π,ren π pin=pin:=λπ=>a0x π _ h2;simp+decide only[go_sem,e1,e2,hπ]
theorem b3t{d:Bool}(R:a02)(c:Cir)(hc:c.wf)(net pin:AV)(g:Hk Nat)(h1:refs net=[])(h2:PinN pin g.pin)(nets:List Nat)(hl:nets.length=c.nodes.length)(n:Nat)(hn:n<c.nodes.length) :
 a09 L.env d (sem L.env Mf) (.func (.func 130) [] []) [.ptr 0 0 0,.int .i64 n] (some (b1p c (.slice 1 0 c.nodes.length (some c.nodes.length)) net pin)::some (.row 1 (nets.map u8R))::R)=some (sl none ((a11 nAlg c.nodes g nets n).map u8R),some (b1p c (.slice 1 0 c.nodes.length (some c.nodes.length)) net pin)::some (.row 1 (nets.map u8R))::R,[0,1]):=
 c53 (by kernel_rfl) (by kernel_rfl) rfl rfl (c4v c net pin h1 h2.flat) (a0f (a2b nets)) rfl (b8j c net pin h1 h2.flat _ rfl) (λn=>b8j c net pin h1 h2.flat _ rfl) (FlatO.row (a2b nets)) (d0h c hc net pin g h1 h2 nets hl n hn) (a33 _ _)
theorem d56(c:Cir)(hc:c.wf)(net pin:AV)(g:Hk Nat)(h1:refs net=[])(h2:PinN pin g.pin)(nets:List Nat)(hl:nets.length=c.nodes.length)(n:Nat)(hn:n<c.nodes.length)(hv:∀v∈a11 nAlg c.nodes g nets n,v≤3) :
 sem L.env Mf 129 [.ptr 0 0 0,.int .i64 n] [some (b1p c (.slice 1 0 c.nodes.length (some c.nodes.length)) net pin),some (.row 1 (nets.map u8R))]=some (.int .u8 (nAlg.ev (a0l c.nodes n) (a11 nAlg c.nodes g nets n):Nat),[some (b1p c (.slice 1 0 c.nodes.length (some c.nodes.length)) net pin),some (.row 1 (nets.map u8R))]):=by
 have ef:=hc.len;obtain⟨x,hx⟩:∃x,c.nodes[n]?=some x:=⟨_,z9e hn⟩
 have dy:=c10 hx;have cW:=hc.insl dy;have k14:=hc.kind x dy;have dD:(a11 nAlg c.nodes g nets n).length=x.ins.length:=by rw[a6j,a1o hx]
 have h3:=h2.flat;have e1:∀π,ren π net=net:=λπ=>a0x π _ h1;have e2:∀π,ren π pin=pin:=λπ=>a0x π _ h3;have iz:=λ(d:Bool)=>b3t (d:=d) [] c hc net pin g h1 h2 nets hl n hn;have eO:=λ(d:Bool)=>c6a (V:=sl none ((a11 nAlg c.nodes g nets n).map u8R)) (.imm none) (by omega) (d:=d) x.kind (by omega);have he:nAlg.ev (a0l c.nodes n) (a11 nAlg c.nodes g nets n)=a41 x.kind (a11 nAlg c.nodes g nets n):=by rw[a15 hx];show a41 x.kind ((a11 nAlg c.nodes g nets n).map a2n)=_;rw[b3e hv]
 rw[he];have eO:∀(d:Bool) (H:a02),a09 L.env d (sem L.env Mf) (.func (.func 121) [] []) [.int .u8 x.kind,sl none ((a11 nAlg c.nodes g nets n).map u8R)] H=some (.int .u8 (a41 x.kind (a11 nAlg c.nodes g nets n):Nat),H,[]):=λd H=>a04 (by kernel_rfl) (by kernel_rfl) rfl (by simp only[e9q,e9n,go_sem]) (b84 x.kind (by omega) _ _ _ (.imm none) (by omega)) rfl;generalize a41 x.kind (a11 nAlg c.nodes g nets n)=w at eO⊢;generalize(a11 nAlg c.nodes g nets n).map u8R=R at iz eO;unfold b1p at iz⊢
 (refine sv Tryz.f129 ?_;simp only[Tryz.f129,gS])
 (repeat first|simp only[ww]|(apply xa;simp+decide only[go_sem,hx,hn,iz,eO];rfl;kernel_rfl))
 (apply fqb;simp+decide only[go_sem,a2u,e1,e2]<;>rfl)
theorem c6g{d:Bool}(R:a02)(c:Cir)(hc:c.wf)(net pin:AV)(g:Hk Nat)(h1:refs net=[])(h2:PinN pin g.pin)(nets:List Nat)(hl:nets.length=c.nodes.length)(n:Nat)(hn:n<c.nodes.length)(hv:∀v∈a11 nAlg c.nodes g nets n,v≤3) :
 a09 L.env d (sem L.env Mf) (.func (.func 129) [.ptr 0 0 0] []) [.int .i64 n] (some (b1p c (.slice 1 0 c.nodes.length (some c.nodes.length)) net pin)::some (.row 1 (nets.map u8R))::R)=some (.int .u8 (nAlg.ev (a0l c.nodes n) (a11 nAlg c.nodes g nets n):Nat),some (b1p c (.slice 1 0 c.nodes.length (some c.nodes.length)) net pin)::some (.row 1 (nets.map u8R))::R,[0,1]):=
 c53 (by kernel_rfl) (by kernel_rfl) rfl rfl (c4v c net pin h1 h2.flat) (a0f (a2b nets)) rfl (b8j c net pin h1 h2.flat _ rfl) (λn=>b8j c net pin h1 h2.flat _ rfl) (FlatO.row (a2b nets)) (d56 c hc net pin g h1 h2 nets hl n hn hv) rfl
def b5b(c:Cir)(ord:List Nat)(g:Hk Nat)(p:Pat):List Nat:=a9m nAlg c.nodes g ord (kinds c.nodes 0) (kinds c.nodes 14) p.ins p.sts
theorem e0j(c:Cir)(hc:c.wf)(hO:c.outs≠[])(p:Pat)(hp:PatOk c.nodes p)(ord:List Nat)(aP:OrdOf c ord)(net pin:AV)(g:Hk Nat)(h1:NetN net g.net)(h2:PinN pin g.pin)(hg:d74 g) :
 sem L.env Mf 89 [.ptr 0 0 0,.agg [sl p.ic (p.ins.map u8R),sl p.sc (p.sts.map u8R)]] [some (b1p c .nilslice net pin)]=some (b0e (a1e c.outs (b5b c ord g p)) (a75 c.nodes g (b5b c ord g p) (kinds c.nodes 14)),[some (b1p c .junk net pin)]):=by
 have ef:=hc.len;have dS:=hc.outl;have aO:c.nodes.length≤1000000000:=by omega
 obtain⟨r0,e3⟩:=a78 (kinds c.nodes 0);obtain⟨r1,e4⟩:=a78 (kinds c.nodes 14);have hk0:=a3h c.nodes 0;have iJ:=a3h c.nodes 14;have hi:=λ(d:Bool) H=>a94 (d:=d) H c (by omega);have hs:=λ(d:Bool) H=>a6x (d:=d) H c (by omega);rw[e3]at hi;rw[e4]at hs;have ho:=aP.call;simp only[Cir.enc]at hi hs ho;have bT:∀n∈ord,n<c.nodes.length:=λn hn=>by have:=aP.perm.mem_iff.1 hn;simpa using this
 have rD:ord.length=c.nodes.length:=by rw[aP.perm.length_eq];simp
 have kD:=hp.ins;have eH:=hp.sts;have n3:=h1.flat;have p3:=h2.flat;have n4:=h1.sto;have p4:=h2.sto;have e1:∀π,ren π net=net:=λπ=>a0x π _ n3;have e2:∀π,ren π pin=pin:=λπ=>a0x π _ p3;have pR:=h1.call;have hB:b5b c ord g p=ord.foldl (Pc.stepG nAlg c.nodes g) (a1f (a1f (List.replicate c.nodes.length 0) (kinds c.nodes 0) p.ins) (kinds c.nodes 14) p.sts):=rfl;rw[hB];have pB:(List.replicate c.nodes.length 0).map u8R=List.replicate c.nodes.length [AV.int .u8 0]:=by rw[List.map_replicate];rfl
 have gn:∀v∈a1f (a1f (List.replicate c.nodes.length 0) (kinds c.nodes 0) p.ins) (kinds c.nodes 14) p.sts,v≤3:=b3g _ _ _ (b3g _ _ _ (λv hv=>by rw[f4n hv];omega) hp.inv) hp.stv
 suffices lU:∃r:AV×a02,(r=(b0e (a1e c.outs (ord.foldl (Pc.stepG nAlg c.nodes g) (a1f (a1f (List.replicate c.nodes.length 0) (kinds c.nodes 0) p.ins) (kinds c.nodes 14) p.sts))) (a75 c.nodes g (ord.foldl (Pc.stepG nAlg c.nodes g) (a1f (a1f (List.replicate c.nodes.length 0) (kinds c.nodes 0) p.ins) (kinds c.nodes 14) p.sts)) (kinds c.nodes 14)),[some (b1p c .junk net pin)]))∧sem L.env Mf 89 [.ptr 0 0 0,.agg [sl p.ic (p.ins.map u8R),sl p.sc (p.sts.map u8R)]] [some (b1p c .nilslice net pin)]=some r by obtain⟨r,rfl,h3⟩:=lU;exact h3
 unfold b1p
 (refine svE Tryz.f89 ?_;simp only[Tryz.f89,gS])
 (repeat first|simp only[ww]|(apply xa;simp+decide only[go_sem,aO,hs,hi,n4,p4];rfl;kernel_rfl))
 refine a1j (σ:=Nat) kp89_0 (λi=>[(0,.ptr 0 0 0),(3,.ptr 2 0 0),(4,.ptr 3 0 0),(5,sl r1 ((kinds c.nodes 14).map a0d)),(41,sl r0 ((kinds c.nodes 0).map a0d)),(42,.int .i64 (kinds c.nodes 0).length),(43,.int .i64 i)])
  (λi=>[some (.row 7 [[sl c.nc (c.nodes.map Nd.enc),sl c.mc (c.names.map a1s),.nilslice,sl c.oc (c.outs.map a0d),.slice 1 0 c.nodes.length (some c.nodes.length),net,pin]]),some (.row 1 ((a1f (List.replicate c.nodes.length 0) ((kinds c.nodes 0).take i) (p.ins.take i)).map u8R)),some (.row 2 [[sl p.ic (p.ins.map u8R),sl p.sc (p.sts.map u8R)]]),some (.row 2 [[.nilslice,.nilslice]])]) (λi=>(kinds c.nodes 0).length-i) (λi=>i≤(kinds c.nodes 0).length) 0 ?_ (f0h _) ?_
 ·rw[f2q,f2q,show a1f (List.replicate c.nodes.length 0) [] []=(List.replicate c.nodes.length 0)from rfl,pB]
  (simp+decide only[go_sem,a03,a00,a2u,a2h,n3,p3,e1,e2]<;>rfl)<;>rfl
 ·intro i gQ;have bl:=a2v ((kinds c.nodes 0).take i) (p.ins.take i) (List.replicate c.nodes.length 0);rw[List.length_replicate]at bl;by_cases ag:i<(kinds c.nodes 0).length
  ·obtain⟨n,hn⟩:∃n,(kinds c.nodes 0)[i]?=some n:=⟨_,z9e ag⟩
   obtain⟨w,hw⟩:∃w,p.ins[i]?=some w:=⟨_,z9e (by omega)⟩
   have dU:=(a6o hn).1;have aw:=a8l (nets:=(List.replicate c.nodes.length 0)) hn hw;have c1:(i:Int)<(kinds c.nodes 0).length:=by omega
   have bO:=wI1 (n:=i) (by omega);have g9:i<p.ins.length:=by omega
   generalize a1f (List.replicate c.nodes.length 0) ((kinds c.nodes 0).take i) (p.ins.take i)=N at aw bl;obtain⟨w0,cA⟩:∃w,N[n]?=some w:=⟨_,z9e (by omega)⟩
   have iw:(N.map u8R).set n [AV.int .u8 w]=(N.set n w).map u8R:=by rw[f3y];rfl
   (repeat first|simp only[ww]|(apply xa;simp+decide only[go_sem,c1,ag,hn,hw,dU,bO,g9,bl,cA,iw];rfl;kernel_rfl))
   refine a4g (i+1) ?_ (by omega) (by omega);rw[aw]
   (simp+decide only[go_sem,a03,a00,a2u,a2h,n3,p3,e1,e2]<;>rfl)<;>rfl
  have eh:i=(kinds c.nodes 0).length:=by omega
  subst eh;have c1:¬((kinds c.nodes 0).length:Int)<(kinds c.nodes 0).length:=by omega
  rw[f3a,f0f (by omega)]at bl⊢;generalize a1f (List.replicate c.nodes.length 0) (kinds c.nodes 0) p.ins=N0 at bl gn⊢;have o4:=bl;clear bl
  (repeat first|simp only[ww]|(apply xa;simp+decide only[go_sem,c1];rfl;kernel_rfl))
  refine a1j (σ:=Nat) kp89_2 (λi=>[(0,.ptr 0 0 0),(3,.ptr 2 0 0),(4,.ptr 3 0 0),(5,sl r1 ((kinds c.nodes 14).map a0d)),(60,sl r1 ((kinds c.nodes 14).map a0d)),(61,.int .i64 (kinds c.nodes 14).length),(62,.int .i64 i)])
   (λi=>[some (.row 7 [[sl c.nc (c.nodes.map Nd.enc),sl c.mc (c.names.map a1s),.nilslice,sl c.oc (c.outs.map a0d),.slice 1 0 c.nodes.length (some c.nodes.length),net,pin]]),some (.row 1 ((a1f N0 ((kinds c.nodes 14).take i) (p.sts.take i)).map u8R)),some (.row 2 [[sl p.ic (p.ins.map u8R),sl p.sc (p.sts.map u8R)]]),some (.row 2 [[.nilslice,.nilslice]])]) (λi=>(kinds c.nodes 14).length-i) (λi=>i≤(kinds c.nodes 14).length) 0 ?_ (f0h _) ?_
  ·rw[f2q,f2q,show a1f N0 [] []=N0 from rfl]
   (simp+decide only[go_sem,a03,a00,a2u,a2h,n3,p3,e1,e2]<;>rfl)<;>rfl
  ·intro i gQ;have bl:=a2v ((kinds c.nodes 14).take i) (p.sts.take i) N0;rw[o4]at bl;by_cases ag:i<(kinds c.nodes 14).length
   ·obtain⟨n,hn⟩:∃n,(kinds c.nodes 14)[i]?=some n:=⟨_,z9e ag⟩
    obtain⟨w,hw⟩:∃w,p.sts[i]?=some w:=⟨_,z9e (by omega)⟩
    have dU:=(a6o hn).1;have aw:=a8l (nets:=N0) hn hw;have c1:(i:Int)<(kinds c.nodes 14).length:=by omega
    have bO:=wI1 (n:=i) (by omega);have g9:i<p.sts.length:=by omega
    generalize a1f N0 ((kinds c.nodes 14).take i) (p.sts.take i)=N at aw bl;obtain⟨w0,cA⟩:∃w,N[n]?=some w:=⟨_,z9e (by omega)⟩
    have iw:(N.map u8R).set n [AV.int .u8 w]=(N.set n w).map u8R:=by rw[f3y];rfl
    (repeat first|simp only[ww]|(apply xa;simp+decide only[go_sem,c1,ag,hn,hw,dU,bO,g9,bl,cA,iw];rfl;kernel_rfl))
    refine a4g (i+1) ?_ (by omega) (by omega);rw[aw]
    (simp+decide only[go_sem,a03,a00,a2u,a2h,n3,p3,e1,e2]<;>rfl)<;>rfl
   have eh:i=(kinds c.nodes 14).length:=by omega
   subst eh;have c1:¬((kinds c.nodes 14).length:Int)<(kinds c.nodes 14).length:=by omega
   rw[f3a,f0f (by omega)]at bl⊢;generalize a1f N0 (kinds c.nodes 14) p.sts=N1 at bl gn⊢;have n5:=bl;clear bl
   (repeat first|simp only[ww]|(apply xa;simp+decide only[go_sem,c1,ho];rfl;kernel_rfl))
   refine a1x kp89_4 (λn F H=>∃i,n=ord.length-i∧i≤ord.length∧(∀v∈(ord.take i).foldl (Pc.stepG nAlg c.nodes g) N1,v≤3)∧F=[(0,.ptr 0 0 0),(4,.ptr 2 0 0),(5,sl r1 ((kinds c.nodes 14).map a0d)),(12,.func (.func 129) [.ptr 0 0 0] []),(89,.islice (ord.map a0d) (some c.nodes.length)),(90,.int .i64 ord.length),(91,.int .i64 i)]∧H=[some (.row 7 [[sl c.nc (c.nodes.map Nd.enc),sl c.mc (c.names.map a1s),.nilslice,sl c.oc (c.outs.map a0d),.slice 1 0 c.nodes.length (some c.nodes.length),net,pin]]),some (.row 1 (((ord.take i).foldl (Pc.stepG nAlg c.nodes g) N1).map u8R)),some (.row 2 [[.nilslice,.nilslice]])]) ord.length ?_ ?_
   ·refine⟨_,_,?_,0,rfl,f0h _,by rw[f2q];exact gn,rfl,rfl⟩;rw[f2q,List.foldl_nil]
    (simp+decide only[go_sem,a03,a00,a2u,a2h,n3,p3,e1,e2]<;>rfl)<;>rfl
   ·rintro n F H ⟨i,rfl,rW,gY,rfl,rfl⟩
    have bl:=a9v (A:=nAlg) (nodes:=c.nodes) (h:=g) (ord.take i) N1;rw[n5]at bl;by_cases ag:i<ord.length
    ·obtain⟨n,hn⟩:∃n,ord[i]?=some n:=⟨_,z9e ag⟩
     have dU:=bT n (c10 hn);obtain⟨x,hx⟩:∃x,c.nodes[n]?=some x:=⟨_,z9e dU⟩
     have dy:=c10 hx;have k14:=hc.kind x dy;have md:=a15 hx;have aw:=c0p (A:=nAlg) (nodes:=c.nodes) (h:=g) (nets:=N1) hn;have c1:(i:Int)<ord.length:=by omega
     have bO:=wI1 (n:=i) (by omega);generalize(ord.take i).foldl (Pc.stepG nAlg c.nodes g) N1=N at aw bl gY;have gJ:∀v∈Pc.stepG nAlg c.nodes g N n,v≤3:=c89 hg gY n;obtain⟨w0,cA⟩:∃w,N[n]?=some w:=⟨_,z9e (by omega)⟩
     by_cases hk:x.kind≠0∧x.kind≠14
     ·have c2:¬(x.kind:Int)=0:=by omega
      have c3:¬(x.kind:Int)=14:=by omega
      have oZ:∀v∈a11 nAlg c.nodes g N n,v≤3:=λv hv=>c3x hg gY n _ _ v hv;have eO:=λ(d:Bool) (R:a02)=>c6g (d:=d) R c hc net pin g n3 h2 N bl n dU oZ;unfold b1p at eO;have bm:Pc.stepG nAlg c.nodes g N n=N.set n (g.net n (nAlg.ev (a0l c.nodes n) (a11 nAlg c.nodes g N n))):=by unfold Pc.stepG;rw[md,f1r hk]
      rw[bm]at aw gJ;generalize nAlg.ev (a0l c.nodes n) (a11 nAlg c.nodes g N n)=w at eO aw gJ;have iw:(N.map u8R).set n [AV.int .u8 w]=(N.set n w).map u8R:=by rw[f3y];rfl
      have jR:(N.set n w)[n]?=some w:=by rw[f2v];simp;omega
      have tB:(N.set n w).length=c.nodes.length:=by rw[f2r];exact bl
      have kN:((N.set n w).map u8R).set n [AV.int .u8 (g.net n w)]=(N.set n (g.net n w)).map u8R:=by have e:(N.set n (g.net n w))=(N.set n w).set n (g.net n w):=(List.set_set ..).symm;rw[e,f3y (l:=N.set n w)];rfl
      (repeat first|simp only[ww]|(apply xa;simp+decide only[go_sem,c1,ag,hn,dU,hx,c2,c3,eO,bl,cA,iw,jR,tB,pR,kN,bO];rfl;kernel_rfl))
      refine a0p (ord.length-(i+1)) (by omega) ⟨_,_,?_,i+1,rfl,ag,by rw[aw];exact gJ,rfl,rfl⟩;rw[aw]
      (simp+decide only[go_sem,a03,a00,a2u,a2h,n3,p3,e1,e2]<;>rfl)<;>rfl
     ·have bm:Pc.stepG nAlg c.nodes g N n=N.set n (g.net n w0):=by
       unfold Pc.stepG;rw[md,f0j hk,List.getD,cA];rfl
      rw[bm]at aw gJ;have kN:(N.map u8R).set n [AV.int .u8 (g.net n w0)]=(N.set n (g.net n w0)).map u8R:=by rw[f3y];rfl
      have fP:x.kind=0∨x.kind=14:=by omega
      rcases fP with fP|fP
      ·have c2:(x.kind:Int)=0:=by omega
       (repeat first|simp only[ww]|(apply xa;simp+decide only[go_sem,c1,ag,hn,dU,hx,c2,bl,cA,pR,kN,bO];rfl;kernel_rfl))
       refine a0p (ord.length-(i+1)) (by omega) ⟨_,_,?_,i+1,rfl,ag,by rw[aw];exact gJ,rfl,rfl⟩;rw[aw]
       (simp+decide only[go_sem,a03,a00,a2u,a2h,n3,p3,e1,e2]<;>rfl)<;>rfl
      ·have c3:(x.kind:Int)=14:=by omega
       (repeat first|simp only[ww]|(apply xa;simp+decide only[go_sem,c1,ag,hn,dU,hx,c3,bl,cA,pR,kN,bO];rfl;kernel_rfl))
       refine a0p (ord.length-(i+1)) (by omega) ⟨_,_,?_,i+1,rfl,ag,by rw[aw];exact gJ,rfl,rfl⟩;rw[aw]
       (simp+decide only[go_sem,a03,a00,a2u,a2h,n3,p3,e1,e2]<;>rfl)<;>rfl
    ·obtain rfl:i=ord.length:=by omega
     have c1:¬(ord.length:Int)<ord.length:=by omega
     rw[f3a]at bl gY⊢;clear gn n5;generalize ord.foldl (Pc.stepG nAlg c.nodes g) N1=nets at bl gY⊢;have jK:=a2b nets;have m1:=a0e jK;have m2:=λπ=>a0b π jK;have iz:=λ(d:Bool) (R:a02) (n:Nat) (hn:n<c.nodes.length)=>b3t (d:=d) R c hc net pin g n3 h2 nets bl n hn;unfold b1p at iz
     (repeat first|simp only[ww]|(apply xa;simp+decide only[go_sem,c1];rfl;kernel_rfl))
     generalize hNR:nets.map u8R=NR at iz jK m1 m2;refine a1x kp89_6 (λn F H=>∃i,n=c.outs.length-i∧i≤c.outs.length∧F=[(0,.ptr 0 0 0),(4,.ptr 2 0 0),(5,sl r1 ((kinds c.nodes 14).map a0d)),(16,.ptr 3 0 0),(143,sl c.oc (c.outs.map a0d)),(144,.int .i64 c.outs.length),(145,.int .i64 i)]∧H=[some (.row 7 [[sl c.nc (c.nodes.map Nd.enc),sl c.mc (c.names.map a1s),.nilslice,sl c.oc (c.outs.map a0d),.slice 1 0 c.nodes.length (some c.nodes.length),net,pin]]),some (.row 1 NR),some (.row 2 [[.nilslice,.nilslice]]),some (.row 2 [[grV 4 ((a1e (c.outs.take i) nets).map u8R),.nilslice]])]++grH 1 ((a1e (c.outs.take i) nets).map u8R)) c.outs.length ?_ ?_
     ·refine⟨_,_,?_,0,rfl,f0h _,rfl,rfl⟩;rw[f2q,show a1e [] nets=[]from rfl]
      (simp+decide only[go_sem,a03,a00,a0q,a0r,e9p,m1,m2,n3,p3,e1,e2]<;>rfl)<;>rfl
     ·rintro n F H ⟨i,rfl,uF,rfl,rfl⟩
      have eQ:((a1e (c.outs.take i) nets).map u8R).length=i:=by simp[a1e];omega
      have dH:=a2b (a1e (c.outs.take i) nets);by_cases ag:i<c.outs.length
      ·obtain⟨o,kY⟩:∃o,c.outs[i]?=some o:=⟨_,z9e ag⟩
       have l6:=hc.outs o (c10 kY);obtain⟨v,j0⟩:∃v,nets[o]?=some v:=⟨_,z9e (by omega)⟩
       have n6:NR[o]?=some [AV.int .u8 v]:=by rw[←hNR,f0d,j0];rfl
       have n7:NR.length=c.nodes.length:=by rw[←hNR,c11];exact bl
       have c1:(i:Int)<c.outs.length:=by omega
       have bO:=wI1 (n:=i) (by omega);have cB:(a1e (c.outs.take (i+1)) nets).map u8R=(a1e (c.outs.take i) nets).map u8R++[[.int .u8 v]]:=by unfold a1e;rw[a1d kY,f2o,f2o];simp only[e12,e9p,List.getD,j0,f3i];rfl
       generalize(a1e (c.outs.take i) nets).map u8R=T at eQ dH cB;have cO:=a0e dH;have dI:=λπ=>a0b π dH;cases T with
       |nil=>
        (repeat first|simp only[ww]|(apply xa;simp+decide only[go_sem,c1,ag,kY,l6,n6,n7,bO,a0q,a0r];rfl;kernel_rfl))
        refine a0p (c.outs.length-(i+1)) (by omega) ⟨_,_,?_,i+1,rfl,ag,rfl,rfl⟩;rw[cB]
        (simp+decide only[go_sem,a03,a00,a06,a07,e9q,f0g,m1,m2,n3,p3,e1,e2]<;>rfl)<;>rfl
       |cons a r=>
        simp only[e9m]at eQ;have aO:r.length+1+1≤1000000000:=by omega
        simp only[f4c]at cO;simp only[e12,List.cons.injEq]at dI
        (repeat first|simp only[ww]|(apply xa;simp+decide only[go_sem,c1,ag,kY,l6,n6,n7,bO,a06,a07,aO];rfl;kernel_rfl))
        refine a0p (c.outs.length-(i+1)) (by omega) ⟨_,_,?_,i+1,rfl,ag,rfl,rfl⟩;rw[cB]
        (simp+decide only[go_sem,a03,a00,a06,a07,f0k,cO,dI,m1,m2,n3,p3,e1,e2]<;>rfl)<;>rfl
      ·obtain rfl:i=c.outs.length:=by omega
       have c1:¬(c.outs.length:Int)<c.outs.length:=by omega
       rw[f3a]at eQ dH⊢;have ue:0<c.outs.length:=List.length_pos_iff.2 hO;have qL:a59 (a1e c.outs nets) = .islice ((a1e c.outs nets).map u8R) (some c.outs.length):=by
        have ee:(a1e c.outs nets).length=c.outs.length:=by simp[a1e]
        cases hoN:a1e c.outs nets with
        |nil=>rw[hoN]at ee;simp at ee;omega
        |cons v q=>rw[hoN]at ee;simp only[e9m]at ee;rw[←ee];rfl
       unfold b0e;rw[qL];generalize(a1e c.outs nets).map u8R=T at eQ dH;cases T with
       |nil=>simp at eQ;omega
       |cons a r=>
        have eE:r.length+1=c.outs.length:=by simpa using eQ
        have cO:=a0e dH;have dI:=λπ=>a0b π dH;have ox:=λ(m:Nat) (q:AV→Option AV)=>a1g m q dH;simp only[f4c]at cO;simp only[e12,List.cons.injEq]at dI;have o4:(a75 c.nodes g nets (kinds c.nodes 14)).length=(kinds c.nodes 14).length:=by simp[a75]
        have sD:∀(i q:Nat),(kinds c.nodes 14)[i]?=some q→(a75 c.nodes g nets (kinds c.nodes 14))[i]?=some (if(a11 nAlg c.nodes g nets q).getD 0 0=3 then 2 else(a11 nAlg c.nodes g nets q).getD 0 0):=by intro i q hq;unfold a75;rw[f0d,hq];rfl
        generalize hXX:a75 c.nodes g nets (kinds c.nodes 14)=XX at o4 sD⊢
        (repeat first|simp only[ww]|(apply xa;simp+decide only[go_sem,c1,a06,a07];rfl;kernel_rfl))
        refine a1x kp89_8 (λn F H=>∃i,n=(kinds c.nodes 14).length-i∧i≤(kinds c.nodes 14).length∧F=[(0,.ptr 0 0 0),(4,.ptr 2 0 0),(16,.ptr 3 0 0),(162,sl r1 ((kinds c.nodes 14).map a0d)),(163,.int .i64 (kinds c.nodes 14).length),(164,.int .i64 i)]∧H=[some (.row 7 [[sl c.nc (c.nodes.map Nd.enc),sl c.mc (c.names.map a1s),.nilslice,sl c.oc (c.outs.map a0d),.slice 1 0 c.nodes.length (some c.nodes.length),net,pin]]),some (.row 1 NR),some (.row 2 [[.nilslice,.nilslice]]),some (.row 2 [[.slice 4 0 (r.length+1) none,grV 5 ((XX.take i).map u8R)]]),some (.row 1 (a::r))]++grH 1 ((XX.take i).map u8R)) (kinds c.nodes 14).length ?_ ?_
        ·refine⟨_,_,?_,0,rfl,f0h _,rfl,rfl⟩;rw[f2q]
         (simp+decide only[go_sem,a03,a00,a0q,a0r,e9p,m1,m2,cO,dI,n3,p3,e1,e2]<;>rfl)<;>rfl
        ·rintro n F H ⟨i,rfl,uE,rfl,rfl⟩
         have gD:((XX.take i).map u8R).length=i:=by simp;omega
         have eF:=a2b (XX.take i);by_cases ag:i<(kinds c.nodes 14).length
         ·obtain⟨q,hq⟩:∃q,(kinds c.nodes 14)[i]?=some q:=⟨_,z9e ag⟩
          obtain⟨lX,pI⟩:=a6o hq;obtain⟨x,hx⟩:∃x,c.nodes[q]?=some x:=⟨_,z9e lX⟩
          have eb:x.kind=14:=by rw[←a15 hx];exact pI
          have ik:x.ins.length=1:=by have h1:=hc.lo x (c10 hx);have h2:=hc.hi x (c10 hx);rw[eb]at h1 h2;have e1:a25 14=1:=rfl;have e2:a26 14=1:=rfl;omega
          have kq:(a11 nAlg c.nodes g nets q).length=1:=by rw[a6j,a1o hx];exact ik
          have lJ:=sD i q hq;have jX:=λ(d:Bool) (R:a02)=>iz d R q lX;generalize a11 nAlg c.nodes g nets q=RR at kq lJ jX;obtain⟨v,ud⟩:∃v,RR=[v]:=by
           cases RR with
           |nil=>simp at kq
           |cons v l=>cases l with
            |nil=>exact⟨v,rfl⟩
            |cons=>simp at kq
          subst ud;simp only[List.getD_cons_zero]at lJ;have fa:(XX.take (i+1)).map u8R=(XX.take i).map u8R++[[.int .u8 (if v=3 then 2 else v:Nat)]]:=by rw[a1d lJ,f2o];rfl
          have c1:(i:Int)<(kinds c.nodes 14).length:=by omega
          have bO:=wI1 (n:=i) (by omega);have fL:Ax.rowAt ([v].map u8R) 0=some [AV.int .u8 v]:=rfl;have jX:∀(d:Bool) (R:a02),_=some (sl none ([v].map u8R),_,_):=jX;generalize(XX.take i).map u8R=X at gD eF fa;generalize [v].map u8R=RV at fL jX;have lP:=a0e eF;have lO:=λπ=>a0b π eF;by_cases rk:v=3
          ·rw[f1r rk]at fa;have c3:(v:Int)=3:=by omega
           cases X with
           |nil=>
            (repeat first|simp only[ww]|(apply xa;simp+decide only[go_sem,c1,ag,hq,jX,fL,c3,bO,a0q,a0r];rfl;kernel_rfl))
            refine a0p ((kinds c.nodes 14).length-(i+1)) (by omega) ⟨_,_,?_,i+1,rfl,ag,rfl,rfl⟩;rw[fa]
            (simp+decide only[go_sem,a03,a00,a06,a07,e9q,f0g,m1,m2,cO,dI,n3,p3,e1,e2]<;>rfl)<;>rfl
           |cons a2 r2=>
            simp only[e9m]at gD;have aO:r2.length+1+1≤1000000000:=by omega
            simp only[f4c]at lP;simp only[e12,List.cons.injEq]at lO
            (repeat first|simp only[ww]|(apply xa;simp+decide only[go_sem,c1,ag,hq,jX,fL,c3,bO,a06,a07,aO];rfl;kernel_rfl))
            refine a0p ((kinds c.nodes 14).length-(i+1)) (by omega) ⟨_,_,?_,i+1,rfl,ag,rfl,rfl⟩;rw[fa]
            (simp+decide only[go_sem,a03,a00,a06,a07,f0k,lP,lO,m1,m2,cO,dI,n3,p3,e1,e2]<;>rfl)<;>rfl
          ·rw[f0j rk]at fa;have c3:¬(v:Int)=3:=by omega
           cases X with
           |nil=>
            (repeat first|simp only[ww]|(apply xa;simp+decide only[go_sem,c1,ag,hq,jX,fL,c3,bO,a0q,a0r];rfl;kernel_rfl))
            refine a0p ((kinds c.nodes 14).length-(i+1)) (by omega) ⟨_,_,?_,i+1,rfl,ag,rfl,rfl⟩;rw[fa]
            (simp+decide only[go_sem,a03,a00,a06,a07,e9q,f0g,m1,m2,cO,dI,n3,p3,e1,e2]<;>rfl)<;>rfl
           |cons a2 r2=>
            simp only[e9m]at gD;have aO:r2.length+1+1≤1000000000:=by omega
            simp only[f4c]at lP;simp only[e12,List.cons.injEq]at lO
            (repeat first|simp only[ww]|(apply xa;simp+decide only[go_sem,c1,ag,hq,jX,fL,c3,bO,a06,a07,aO];rfl;kernel_rfl))
            refine a0p ((kinds c.nodes 14).length-(i+1)) (by omega) ⟨_,_,?_,i+1,rfl,ag,rfl,rfl⟩;rw[fa]
            (simp+decide only[go_sem,a03,a00,a06,a07,f0k,lP,lO,m1,m2,cO,dI,n3,p3,e1,e2]<;>rfl)<;>rfl
         ·obtain rfl:i=(kinds c.nodes 14).length:=by omega
          have c1:¬((kinds c.nodes 14).length:Int)<(kinds c.nodes 14).length:=by omega
          have kg:=λ(d:Bool) (x0 x1 x2 x3:Option AObj) (R:a02)=>a8p (d:=d) (H:=x0::x1::x2::x3::some (.row 1 (a::r))::R) (b:=4) (n:=r.length+1) dH rfl;rw[f0f (by omega)]at gD eF⊢;cases XX with
          |nil=>
           have gB:=λ(d:Bool) (H:a02)=>b4j (d:=d) H
           (repeat first|simp only[ww]|(apply xa;simp+decide only[go_sem,c1,kg,gB,e9p,a0q,a0r];rfl;kernel_rfl))
           refine a1v (vs:=[.agg [.slice 4 0 (r.length+1) (some (r.length+1)),.nilslice]]) (r:=(_,_)) (by simp+decide only[go_sem]) ?_ rfl;show a10 false 1 (.agg [.slice 4 0 (r.length+1) (some (r.length+1)),.nilslice]) _=_;have fg:List.take (r.length+1) (a::r)=a::r:=f3a (l:=a::r);rw[←eE];unfold a59;simp+decide only[go_sem,ox,m2,fg,e1,e2]<;>rfl
          |cons a2 r2=>
           have iV:=λ(d:Bool) (x0 x1 x2 x3 x4:Option AObj)=>a8p (d:=d) (H:=[x0,x1,x2,x3,x4,some (.row 1 ((a2::r2).map u8R))]) (b:=5) (n:=r2.length+1) eF rfl;have oy:=λ(m:Nat) (q:AV→Option AV)=>a1g m q eF;have cJ:(r2.map u8R).length=r2.length:=c11 ..;simp only[e12,u8R]at iV oy eF⊢
           (repeat first|simp only[ww]|(apply xa;simp+decide only[go_sem,c1,kg,iV,a06,a07,cJ];rfl;kernel_rfl))
           refine a1v (vs:=[.agg [.slice 4 0 (r.length+1) (some (r.length+1)),.slice 5 0 (r2.length+1) (some (r2.length+1))]]) (r:=(_,_)) (by simp+decide only[go_sem]) ?_ rfl;show a10 false 1 (.agg [.slice 4 0 (r.length+1) (some (r.length+1)),.slice 5 0 (r2.length+1) (some (r2.length+1))]) _=_;have fg:List.take (r.length+1) (a::r)=a::r:=f3a (l:=a::r);have kH:List.take (r2.length+1) ([AV.int .u8 a2]::r2.map u8R)=[AV.int .u8 a2]::r2.map u8R:=f0f (by simp);rw[←eE];unfold a59;simp only[e12,u8R];simp+decide only[go_sem,ox,oy,m2,fg,kH,e1,e2]<;>rfl
def a6k:Nat→List Nat→List Nat→List Nat
 |i,x::xs,y::ys=>if con x y then i::a6k (i+1) xs ys else a6k (i+1) xs ys
 |_,_,_=>[]
theorem b7w:∀(i:Nat) (a b:List Nat),decide (0<(a6k i a b).length)=a9a a b
 |i,[],b=>by cases b<;>rfl
 |i,x::xs,[]=>rfl
 |i,x::xs,y::ys=>by
  have ih:=b7w (i+1) xs ys;by_cases h:con x y=true
  ·have e:a6k i (x::xs) (y::ys)=i::a6k (i+1) xs ys:=by simp[a6k,h]
   rw[show a9a (x::xs) (y::ys)=(con x y||a9a xs ys)from rfl,h,Bool.true_or,f0l,e];simp
  ·have h:con x y=false:=by simpa using h
   have e:a6k i (x::xs) (y::ys)=a6k (i+1) xs ys:=by simp[a6k,h]
   rw[show a9a (x::xs) (y::ys)=(con x y||a9a xs ys)from rfl,h,Bool.false_or,←ih];exact congrArg (λl:List Nat=>decide (0<l.length)) e
theorem b9w:∀(i:Nat) (a b:List Nat) (x y:Nat),a.length=b.length→a6k i (a++[x]) (b++[y])=if con x y then a6k i a b++[i+a.length]else a6k i a b
 |i,[],[],x,y,_=>by simp[a6k]
 |i,[],_::_,_,_,h=>by simp at h
 |i,_::_,[],_,_,h=>by simp at h
 |i,u::a,v::b,x,y,h=>by
  simp only[f0k,a6k];have:=b9w (i+1) a b x y (by simpa using h);rw[this];have e:i+(u::a).length=i+1+a.length:=by simp;omega
  rw[e];cases con x y<;>cases con u v<;>simp
theorem b7v:∀(i:Nat) (a b:List Nat),(a6k i a b).length≤a.length
 |i,[],b=>by cases b<;>simp[a6k]
 |i,x::xs,[]=>by simp[a6k]
 |i,x::xs,y::ys=>by simp only[a6k];have:=b7v (i+1) xs ys;split<;>simp<;>omega
theorem d5z(ra rb:Rep)(a b:List Nat)(aX:a.length=b.length)(hl:a.length≤1000):sem L.env Mf 132 [sl ra (a.map u8R),sl rb (b.map u8R)] []=some (b55 (a6k 0 a b),[]):=by
 have dL:d2g (.int .i64 (b.length:Nat)) [.int .i64 (b.length:Nat)]=some (.int .i64 (b.length:Nat)):=by simp[d2g]
 suffices hs:∃r:AV×a02,(r=(b55 (a6k 0 a b),[]))∧sem L.env Mf 132 [sl ra (a.map u8R),sl rb (b.map u8R)] []=some r by obtain⟨r,rfl,h3⟩:=hs;exact h3
 (refine svE Tryz.f132 ?_;simp only[Tryz.f132,gS])
 (repeat first|simp only[ww]|(apply xa;simp+decide only[go_sem,aX,dL];rfl;kernel_rfl))
 refine a1x kp132_0 (λn F H=>∃i,n=b.length-i∧i≤b.length∧F=[(0,sl ra (a.map u8R)),(1,sl rb (b.map u8R)),(5,grV 0 ((a6k 0 (a.take i) (b.take i)).map a0d)),(11,.int .i64 b.length),(12,.int .i64 i)]∧H=grH 1 ((a6k 0 (a.take i) (b.take i)).map a0d)) b.length ?_ ?_
 ·refine⟨_,_,?_,0,rfl,f0h _,rfl,rfl⟩;rw[f2q,f2q,show a6k 0 [] []=[]from rfl]
  (simp+decide only[go_sem,a03,a00,a0q,a0r,e9p]<;>rfl)<;>rfl
 ·rintro n F H ⟨i,rfl,hi,rfl,rfl⟩
  have dH:=a31 (a6k 0 (a.take i) (b.take i));by_cases ag:i<b.length
  ·obtain⟨x,hx⟩:∃x,a[i]?=some x:=⟨_,z9e (by omega)⟩
   obtain⟨y,hy⟩:∃y,b[i]?=some y:=⟨_,z9e ag⟩
   have c1:(i:Int)<b.length:=by omega
   have bO:=wI1 (n:=i) (by omega);have jy:i<a.length:=by omega
   have mR:=b9w 0 (a.take i) (b.take i) x y (by simp;omega);rw[←a1d hx,←a1d hy,f3f,Nat.min_eq_left (by omega),f3e]at mR;have eQ:((a6k 0 (a.take i) (b.take i)).map a0d).length≤1000:=by have:=b7v 0 (a.take i) (b.take i);rw[f3f]at this;rw[c11];omega
   by_cases hc:x≤1∧y≤1∧x≠y
   ·have d1:(x:Int)≤1:=by omega
    have d2:(y:Int)≤1:=by omega
    have d3:¬(x:Int)=y:=by omega
    rw[f1r (by simp[con,hc.1,hc.2.1,hc.2.2])]at mR;have cB:(a6k 0 (a.take (i+1)) (b.take (i+1))).map a0d=(a6k 0 (a.take i) (b.take i)).map a0d++[[.int .i64 i]]:=by rw[mR,f2o];rfl
    generalize(a6k 0 (a.take i) (b.take i)).map a0d=T at eQ dH cB;have cO:=a0e dH;have dI:=λπ=>a0b π dH;cases T with
    |nil=>
     (repeat first|simp only[ww]|(apply xa;simp+decide only[go_sem,c1,ag,jy,hx,hy,d1,d2,d3,bO,a0q,a0r];rfl;kernel_rfl))
     refine a0p (b.length-(i+1)) (by omega) ⟨_,_,?_,i+1,rfl,ag,rfl,rfl⟩;rw[cB]
     (simp+decide only[go_sem,a03,a00,a06,a07,e9q,f0g]<;>rfl)<;>rfl
    |cons u r=>
     simp only[e9m]at eQ;have aO:r.length+1+1≤1000000000:=by omega
     simp only[f4c]at cO;simp only[e12,List.cons.injEq]at dI
     (repeat first|simp only[ww]|(apply xa;simp+decide only[go_sem,c1,ag,jy,hx,hy,d1,d2,d3,bO,a06,a07,aO];rfl;kernel_rfl))
     refine a0p (b.length-(i+1)) (by omega) ⟨_,_,?_,i+1,rfl,ag,rfl,rfl⟩;rw[cB]
     (simp+decide only[go_sem,a03,a00,a06,a07,f0k,cO,dI]<;>rfl)<;>rfl
   ·rw[f0j (by simp[con];omega)]at mR;rw[←mR]at dH eQ⊢;generalize cB:(a6k 0 (a.take (i+1)) (b.take (i+1))).map a0d=T at eQ dH⊢;have cO:=a0e dH;have dI:=λπ=>a0b π dH;have cR:(¬(x:Int)≤1)∨((x:Int)≤1∧¬(y:Int)≤1)∨((x:Int)≤1∧(y:Int)≤1∧x=y):=by omega
    cases T with
    |nil=>
     rcases cR with d1|⟨d1,d2⟩|⟨d1,d2,rfl⟩
     ·(repeat first|simp only[ww]|(apply xa;simp+decide only[go_sem,c1,ag,jy,hx,hy,d1,bO,a0q,a0r];rfl;kernel_rfl))
      refine a0p (b.length-(i+1)) (by omega) ⟨_,_,?_,i+1,rfl,ag,rfl,rfl⟩;rw[cB]
      (simp+decide only[go_sem,a03,a00,a0q,a0r]<;>rfl)<;>rfl
     ·(repeat first|simp only[ww]|(apply xa;simp+decide only[go_sem,c1,ag,jy,hx,hy,d1,d2,bO,a0q,a0r];rfl;kernel_rfl))
      refine a0p (b.length-(i+1)) (by omega) ⟨_,_,?_,i+1,rfl,ag,rfl,rfl⟩;rw[cB]
      (simp+decide only[go_sem,a03,a00,a0q,a0r]<;>rfl)<;>rfl
     ·(repeat first|simp only[ww]|(apply xa;simp+decide only[go_sem,c1,ag,jy,hx,hy,d1,d2,bO,a0q,a0r];rfl;kernel_rfl))
      refine a0p (b.length-(i+1)) (by omega) ⟨_,_,?_,i+1,rfl,ag,rfl,rfl⟩;rw[cB]
      (simp+decide only[go_sem,a03,a00,a0q,a0r]<;>rfl)<;>rfl
    |cons u r=>
     simp only[f4c]at cO;simp only[e12,List.cons.injEq]at dI;rcases cR with d1|⟨d1,d2⟩|⟨d1,d2,rfl⟩
     ·(repeat first|simp only[ww]|(apply xa;simp+decide only[go_sem,c1,ag,jy,hx,hy,d1,bO,a06,a07];rfl;kernel_rfl))
      refine a0p (b.length-(i+1)) (by omega) ⟨_,_,?_,i+1,rfl,ag,rfl,rfl⟩;rw[cB]
      (simp+decide only[go_sem,a03,a00,a06,a07,cO,dI]<;>rfl)<;>rfl
     ·(repeat first|simp only[ww]|(apply xa;simp+decide only[go_sem,c1,ag,jy,hx,hy,d1,d2,bO,a06,a07];rfl;kernel_rfl))
      refine a0p (b.length-(i+1)) (by omega) ⟨_,_,?_,i+1,rfl,ag,rfl,rfl⟩;rw[cB]
      (simp+decide only[go_sem,a03,a00,a06,a07,cO,dI]<;>rfl)<;>rfl
     ·(repeat first|simp only[ww]|(apply xa;simp+decide only[go_sem,c1,ag,jy,hx,hy,d1,d2,bO,a06,a07];rfl;kernel_rfl))
      refine a0p (b.length-(i+1)) (by omega) ⟨_,_,?_,i+1,rfl,ag,rfl,rfl⟩;rw[cB]
      (simp+decide only[go_sem,a03,a00,a06,a07,cO,dI]<;>rfl)<;>rfl
  ·obtain rfl:i=b.length:=by omega
   have c1:¬(b.length:Int)<b.length:=by omega
   rw[f3a,f0f (by omega)];generalize a6k 0 a b=l;cases l with
   |nil=>
    have bL:=λ(d:Bool) (H:a02)=>a04 (E:=L.env) (ah:=d) (call:=sem L.env Mf) (g:=35) (fs:=[]) (cs:=[]) (ar:=[.nilslice]) (H:=H) (by kernel_rfl) (by kernel_rfl) rfl rfl c50 rfl
    (repeat first|simp only[ww]|(apply xa;simp+decide only[go_sem,c1,e9p,a0q,a0r,bL];rfl;kernel_rfl))
    refine a1v (vs:=[.nilslice]) (r:=(_,_)) (by simp+decide only[go_sem]) (by simp+decide only[go_sem]<;>rfl) rfl
   |cons u r=>
    have bL:=λ(d:Bool)=>c16 (d:=d) (H:=[some (.row 1 ((u::r).map a0d))]) (b:=0) (n:=r.length+1) (c4q _) rfl;simp only[e12,go_sem]at bL
    (repeat first|simp only[ww]|(apply xa;simp+decide only[go_sem,c1,e12,a06,a07,c11,bL];rfl;kernel_rfl))
    refine a1v (vs:=[.slice 0 0 (r.length+1) (some (r.length+1))]) (r:=(_,_)) (by simp+decide only[go_sem]) ?_ rfl;show a10 false 0 (.slice 0 0 (r.length+1) (some (r.length+1))) _=_;simp+decide only[go_sem,c0j,e12,d5g,e9m]<;>rfl
theorem b6z{d:Bool}(H:a02)(ra rb:Rep)(a b:List Nat)(aX:a.length=b.length)(hl:a.length≤1000):a09 L.env d (sem L.env Mf) (.func (.func 132) [] []) [sl ra (a.map u8R),sl rb (b.map u8R)] H=some (b55 (a6k 0 a b),H,[]):=a04 (by kernel_rfl) (by kernel_rfl) rfl (by simp only[e9q,e9n,go_sem]) (d5z ra rb a b aX hl) (a5q _)
theorem d1j(ao an bo bn:List Nat)(ho:ao.length=bo.length)(hn:an.length=bn.length)(bH:ao.length≤1000)(iH:an.length≤1000):sem L.env Mf 90 [b0e ao an,b0e bo bn] []=some (.tuple [b55 (a6k 0 ao bo),b55 (a6k 0 an bn)],[]):=by
 obtain⟨r1,e1⟩:=b2g ao;obtain⟨r2,e2⟩:=b2g an;obtain⟨r3,e3⟩:=b2g bo;obtain⟨r4,e4⟩:=b2g bn;have h1:=λ(d:Bool) (H:a02)=>b6z (d:=d) H r1 r3 ao bo ho bH;have h2:=λ(d:Bool) (H:a02)=>b6z (d:=d) H r2 r4 an bn hn iH;unfold b0e;rw[e1,e2,e3,e4];have q1:=a5q (a6k 0 ao bo);have q2:=a5q (a6k 0 an bn);generalize b55 (a6k 0 ao bo)=V1 at h1 q1⊢;generalize b55 (a6k 0 an bn)=V2 at h2 q2⊢
 (refine sv Tryz.f90 ?_;simp only[Tryz.f90,gS])
 (repeat first|simp only[ww]|(apply xa;simp+decide only[go_sem,h1,h2];rfl;kernel_rfl))
 refine a6r (vs:=[V1,V2]) (by simp+decide only[go_sem]) (a42 (by show refs V1++(refs V2++[])=[];rw[q1,q2];rfl))
theorem c32{d:Bool}(H:a02)(ao an bo bn:List Nat)(ho:ao.length=bo.length)(hn:an.length=bn.length)(bH:ao.length≤1000)(iH:an.length≤1000):a09 L.env d (sem L.env Mf) (.func (.func 90) [] []) [b0e ao an,b0e bo bn] H=some (.tuple [b55 (a6k 0 ao bo),b55 (a6k 0 an bn)],H,[]):=a04 (by kernel_rfl) (by kernel_rfl) rfl (by simp only[e9q,e9n,a0c,a6i,a3r]) (d1j ao an bo bn ho hn bH iH) (by simp only[b0n,a0c,a5q,a3r,e9n])
theorem d93(ao an bo bn:List Nat)(ho:ao.length=bo.length)(hn:an.length=bn.length)(bH:ao.length≤1000)(iH:an.length≤1000):sem L.env Mf 44 [b0e ao an,b0e bo bn] []=some (.bool (a9a ao bo||a9a an bn),[]):=by
 have h1:=λ(d:Bool) (H:a02)=>c32 (d:=d) H ao an bo bn ho hn bH iH;have l1:=b7v 0 ao bo;have l2:=b7v 0 an bn;have k1:=b7w 0 ao bo;have k2:=b7w 0 an bn;rw[←k1,←k2];unfold b0e at h1⊢;have q1:=a2i ao;have q2:=a2i an;have q3:=a2i bo;have q4:=a2i bn;have s1:=a27 ao;have s2:=a27 an;have s3:=a27 bo;have s4:=a27 bn;unfold b55 at h1;generalize a6k 0 ao bo=P at h1 l1⊢;generalize a6k 0 an bn=Q at h1 l2⊢;generalize a59 ao=A1 at h1 q1 s1⊢;generalize a59 an=A2 at h1 q2 s2⊢;generalize a59 bo=B1 at h1 q3 s3⊢;generalize a59 bn=B2 at h1 q4 s4⊢;have hw:IntKind.i64.wrap ((P.length:Int)+(Q.length:Int))=((P.length+Q.length:Nat):Int):=by rw[w64 (by omega) (by omega)];omega
 have hd:decide ((0:Int)<((P.length+Q.length:Nat):Int))=(decide (0<P.length)||decide (0<Q.length)):=by rw[f6l];simp;omega
 (refine sv Tryz.f44 ?_;simp only[Tryz.f44,gS])
 (repeat first|simp only[ww]|(apply xa;simp+decide only[go_sem,h1,s1,s2,s3,s4,hw,hd];rfl;kernel_rfl))
 refine a6r (vs:=[.bool (decide (0<P.length)||decide (0<Q.length))]) (by simp+decide only[go_sem]<;>rfl) (a42 rfl)
theorem c8k{d:Bool}(H:a02)(ao an bo bn:List Nat)(ho:ao.length=bo.length)(hn:an.length=bn.length)(bH:ao.length≤1000)(iH:an.length≤1000):a09 L.env d (sem L.env Mf) (.func (.func 44) [] []) [b0e ao an,b0e bo bn] H=some (.bool (a9a ao bo||a9a an bn),H,[]):=a04 (by kernel_rfl) (by kernel_rfl) rfl (by simp only[e9q,e9n,a0c,a6i,a3r]) (d93 ao an bo bn ho hn bH iH) rfl
theorem b3p{nodes:List Nd}{k n:Nat}:n∈kinds nodes k↔n<nodes.length∧a0l nodes n=k:=by unfold kinds a3b;rw[f4p];simp
theorem d0u(c:Cir)(hc:c.wf)(ord:List Nat)(aP:OrdOf c ord):(b4z c ord).good:={
 perm:=aP.perm
 topo:=aP.topo
 comb:=λn hn h=>by
  obtain⟨x,hx⟩:∃x,c.nodes[n]?=some x:=⟨_,z9e hn⟩
  have k14:=hc.kind x (c10 hx);have hk:a0l c.nodes n=x.kind:=a15 hx;have h:a0l c.nodes n≠0∧a0l c.nodes n≠14:=h;show a1l (a0l c.nodes n)=true;rw[hk]at h⊢;have a:1≤x.kind:=by omega
  have b:x.kind≤13:=by omega
  simp[a1l,a,b]
 inn:=λn hn m hm=>by
  obtain⟨x,hx⟩:∃x,c.nodes[n]?=some x:=⟨_,z9e hn⟩
  have hm:m∈a1y c.nodes n:=hm;rw[a1o hx]at hm;exact hc.ins x (c10 hx) m hm
 ins:=λn=>b3p
 sts:=λn=>b3p
 dff:=λn hn=>by
  obtain⟨h1,h2⟩:=b3p.1 hn;obtain⟨x,hx⟩:∃x,c.nodes[n]?=some x:=⟨_,z9e h1⟩
  rw[a15 hx]at h2;have:=hc.lo x (c10 hx);rw[h2]at this;have h3:1≤x.ins.length:=this;show a1y c.nodes n≠[];rw[a1o hx];intro h0;rw[h0]at h3;simp at h3
 outs:=λn hn=>hc.outs n hn}
def a9t(c:Cir)(ord:List Nat)(f:Flt)(p:Pat):Hk Nat:=hkF f (a20 nAlg (a4l c ord p) f)
theorem c4g(c:Cir)(ord:List Nat)(p:Pat)(hp:PatOk c.nodes p):∀v∈a4l c ord p,v≤3:=b7y d0q _ _ _ _ _ hp.inv hp.stv
theorem e0o(c:Cir)(ord:List Nat)(f:Flt)(hf:FltOk c.nodes f)(p:Pat)(hp:PatOk c.nodes p):d74 (a9t c ord f p):=by
 refine d7z ?_;have hv:=hf.value;unfold a20;split
 ·show f.value≤3;omega
 split
 ·exact a62 (c4g c ord p hp) _
 split<;>exact c9h _ _
theorem e1j(c:Cir)(hc:c.wf)(hO:c.outs≠[])(p:Pat)(hp:PatOk c.nodes p)(f:Flt)(hf:FltOk c.nodes f)(ord:List Nat)(aP:OrdOf c ord) :
 sem L.env Mf 43 [.agg [sl c.nc (c.nodes.map Nd.enc),sl c.mc (c.names.map a1s),.nilslice,sl c.oc (c.outs.map a0d)],.agg [.int .u8 f.model,.int .i64 f.node,.int .i64 f.pin,.int .u8 f.value,.int .i64 f.other],.agg [sl p.ic (p.ins.map u8R),sl p.sc (p.sts.map u8R)]] []=some (.tuple [b0e (a1e c.outs (a4l c ord p)) (a3s c.nodes (a4l c ord p)),b0e (a1e c.outs (b5b c ord (a9t c ord f p) p)) (a75 c.nodes (a9t c ord f p) (b5b c ord (a9t c ord f p) p) (kinds c.nodes 14)),.junk,.int .i64 0],[]):=by
 have bG:=λ(d:Bool) (H:a02)=>b47 (d:=d) H c hc f hf;have mQ:=λ(d:Bool) (H:a02)=>a04 (E:=L.env) (ah:=d) (call:=sem L.env Mf) (H:=H) (g:=87) (fs:=[]) (cs:=[]) (ar:=[.agg c.enc,.agg p.enc]) (by kernel_rfl) (by kernel_rfl) rfl (by simp only[e9q,e9n,a0c,a1a,Cir.enc,Pat.enc,go_sem]) (d8y c hc hO p hp ord aP) (by simp only[b0n,a0c,a6i,a3r,e9n];simp only[go_sem]);obtain⟨net,pin,hN,hP,gx⟩:=d1c c f hf (a4l c ord p) (b38 _ _ _ _ _) (c4g c ord p hp);have li:=e0j c hc hO p hp ord aP net pin (a9t c ord f p) hN hP (e0o c ord f hf p hp);have n3:=hN.flat;have p3:=hP.flat;have bF:∀v:AV,refs v=[]→FlatR [[sl c.nc (c.nodes.map Nd.enc),sl c.mc (c.names.map a1s),.nilslice,sl c.oc (c.outs.map a0d),v,net,pin]]:=λv hv r hr=>by rw[f1s]at hr;subst hr;simp only[go_sem,hv,n3,p3]
 have ny:=bF .nilslice rfl;have qj:=bF .junk rfl;have qq:∀x0 x1 x2 x3 x4:Option AObj,a09 L.env false (sem L.env Mf) (.func (.func 88) [] []) [.agg [sl c.nc (c.nodes.map Nd.enc),sl c.mc (c.names.map a1s),.nilslice,sl c.oc (c.outs.map a0d)],.agg [.int .u8 f.model,.int .i64 f.node,.int .i64 f.pin,.int .u8 f.value,.int .i64 f.other],.islice ((a4l c ord p).map u8R) (some c.nodes.length)] [x0,x1,x2,x3,x4]=some (.ptr 5 0 0,[x0,x1,x2,x3,x4,some (.row 7 [[sl c.nc (c.nodes.map Nd.enc),sl c.mc (c.names.map a1s),.nilslice,sl c.oc (c.outs.map a0d),.nilslice,net,pin]])],[]):=λx0 x1 x2 x3 x4=>c79 (by kernel_rfl) (by kernel_rfl) rfl (by simp only[e9q,e9n,go_sem]) gx ny;have jA:∀x0 x1 x2 x3 x4:Option AObj,a09 L.env false (sem L.env Mf) (.func (.func 89) [] []) [.ptr 5 0 0,.agg [sl p.ic (p.ins.map u8R),sl p.sc (p.sts.map u8R)]] [x0,x1,x2,x3,x4,some (.row 7 [[sl c.nc (c.nodes.map Nd.enc),sl c.mc (c.names.map a1s),.nilslice,sl c.oc (c.outs.map a0d),.nilslice,net,pin]])]=some (_,[x0,x1,x2,x3,x4,some (.row 7 [[sl c.nc (c.nodes.map Nd.enc),sl c.mc (c.names.map a1s),.nilslice,sl c.oc (c.outs.map a0d),.junk,net,pin]])],[5]):=λx0 x1 x2 x3 x4=>a3k (b:=5) (by kernel_rfl) (by kernel_rfl) rfl rfl (by simp only[go_sem,n3,p3]) (FlatO.row ny) (by simp only[e9q,e9n,go_sem]) (by simp+decide only[e9q,e9n,e12,e9p,go_sem]<;>rfl) li (FlatO.row qj) (a0x _ _ (a6i _ _));have s1:=a27 (a1e c.outs (a4l c ord p));have s2:=a27 (a3s c.nodes (a4l c ord p));have s3:=a27 (a1e c.outs (b5b c ord (a9t c ord f p) p));have s4:=a27 (a75 c.nodes (a9t c ord f p) (b5b c ord (a9t c ord f p) p) (kinds c.nodes 14));have q1:=a2i (a1e c.outs (a4l c ord p));have q2:=a2i (a3s c.nodes (a4l c ord p));have q3:=a2i (a1e c.outs (b5b c ord (a9t c ord f p) p));have q4:=a2i (a75 c.nodes (a9t c ord f p) (b5b c ord (a9t c ord f p) p) (kinds c.nodes 14));have m1:¬(f.model:Int)=1:=by have:=hf.model;omega
 unfold b0e at mQ jA⊢;generalize a59 (a1e c.outs (a4l c ord p))=A1 at mQ s1 q1⊢;generalize a59 (a3s c.nodes (a4l c ord p))=A2 at mQ s2 q2⊢;generalize a59 (a1e c.outs (b5b c ord (a9t c ord f p) p))=B1 at jA s3 q3⊢;generalize a59 (a75 c.nodes (a9t c ord f p) (b5b c ord (a9t c ord f p) p) (kinds c.nodes 14))=B2 at jA s4 q4⊢;simp only[Cir.enc,Pat.enc,Flt.enc]at bG mQ
 (refine sv Tryz.f43 ?_;simp only[Tryz.f43,gS])
 (repeat first|simp only[ww]|(apply xa;simp+decide only[go_sem,bG,mQ,qq,jA,m1,s1,s2,s3,s4];rfl;kernel_rfl))
 refine a6r (vs:=[.agg [A1,A2],.agg [B1,B2],.junk,.int .i64 0]) (by simp+decide only[go_sem]<;>rfl) (a42 (by show(refs A1++(refs A2++[]))++((refs B1++(refs B2++[]))++_)=[];rw[q1,q2,q3,q4];rfl))
theorem d25{d:Bool}(H:a02)(c:Cir)(hc:c.wf)(hO:c.outs≠[])(p:Pat)(hp:PatOk c.nodes p)(f:Flt)(hf:FltOk c.nodes f)(ord:List Nat)(aP:OrdOf c ord) :
 a09 L.env d (sem L.env Mf) (.func (.func 43) [] []) [.agg [sl c.nc (c.nodes.map Nd.enc),sl c.mc (c.names.map a1s),.nilslice,sl c.oc (c.outs.map a0d)],.agg [.int .u8 f.model,.int .i64 f.node,.int .i64 f.pin,.int .u8 f.value,.int .i64 f.other],.agg [sl p.ic (p.ins.map u8R),sl p.sc (p.sts.map u8R)]] H=some (.tuple [b0e (a1e c.outs (a4l c ord p)) (a3s c.nodes (a4l c ord p)),b0e (a1e c.outs (b5b c ord (a9t c ord f p) p)) (a75 c.nodes (a9t c ord f p) (b5b c ord (a9t c ord f p) p) (kinds c.nodes 14)),.junk,.int .i64 0],H,[]):=
 a04 (by kernel_rfl) (by kernel_rfl) rfl (by simp only[e9q,e9n,go_sem]) (e1j c hc hO p hp f hf ord aP) (by simp only[b0n,a0c,a3r,a6i,e9n];rfl)
theorem f6b(c:Cir)(hc:c.wf)(p:Pat)(hp:PatOk c.nodes p)(f:Flt)(hf:FltOk c.nodes f)(ord:List Nat)(aP:OrdOf c ord) :
 (a9a (a1e c.outs (a4l c ord p)) (a1e c.outs (b5b c ord (a9t c ord f p) p))||a9a (a3s c.nodes (a4l c ord p)) (a75 c.nodes (a9t c ord f p) (b5b c ord (a9t c ord f p) p) (kinds c.nodes 14)))=(b4z c ord).det f p:=
 ((d0u c hc ord aP).det hp.ins.symm hp.sts.symm f (λ_=>by have:=hf.value;omega) hf.node hf.other hp.inv hp.stv).symm
theorem c6t(c:Cir)(hc:c.wf)(hO:c.outs≠[])(p:Pat)(hp:PatOk c.nodes p)(f:Flt)(hf:FltOk c.nodes f)(ord:List Nat)(aP:OrdOf c ord) :
 sem L.env Mf 12 [.agg [sl c.nc (c.nodes.map Nd.enc),sl c.mc (c.names.map a1s),.nilslice,sl c.oc (c.outs.map a0d)],.agg [.int .u8 f.model,.int .i64 f.node,.int .i64 f.pin,.int .u8 f.value,.int .i64 f.other],.agg [sl p.ic (p.ins.map u8R),sl p.sc (p.sts.map u8R)]] []=some (.tuple [.bool ((b4z c ord).det f p),.int .i64 0],[]):=by
 have hb:=λ(d:Bool) (H:a02)=>d25 (d:=d) H c hc hO p hp f hf ord aP;have pZ:(a1e c.outs (a4l c ord p)).length=(a1e c.outs (b5b c ord (a9t c ord f p) p)).length:=by simp[a1e]
 have gO:(a3s c.nodes (a4l c ord p)).length=(a75 c.nodes (a9t c ord f p) (b5b c ord (a9t c ord f p) p) (kinds c.nodes 14)).length:=by simp[a3s,a75]
 have tG:(a1e c.outs (a4l c ord p)).length≤1000:=by have:=hc.outl;simp[a1e];omega
 have tF:(a3s c.nodes (a4l c ord p)).length≤1000:=by have:=hc.len;have:=a3h c.nodes 14;simp[a3s];omega
 have hs:=λ(d:Bool) (H:a02)=>c8k (d:=d) H _ _ _ _ pZ gO tG tF;rw[f6b c hc p hp f hf ord aP]at hs;have s1:=a27 (a1e c.outs (a4l c ord p));have s2:=a27 (a3s c.nodes (a4l c ord p));have s3:=a27 (a1e c.outs (b5b c ord (a9t c ord f p) p));have s4:=a27 (a75 c.nodes (a9t c ord f p) (b5b c ord (a9t c ord f p) p) (kinds c.nodes 14));unfold b0e at hb hs;generalize a59 (a1e c.outs (a4l c ord p))=A1 at hb hs s1;generalize a59 (a3s c.nodes (a4l c ord p))=A2 at hb hs s2;generalize a59 (a1e c.outs (b5b c ord (a9t c ord f p) p))=B1 at hb hs s3;generalize a59 (a75 c.nodes (a9t c ord f p) (b5b c ord (a9t c ord f p) p) (kinds c.nodes 14))=B2 at hb hs s4
 (refine sv Tryz.f12 ?_;simp only[Tryz.f12,gS])
 (repeat first|simp only[ww]|(apply xa;simp+decide only[go_sem,hb,hs,s1,s2,s3,s4];rfl;kernel_rfl))
 (apply fqb;simp+decide only[go_sem]<;>rfl)
theorem b1m{d:Bool}(H:a02)(c:Cir)(hc:c.wf)(hO:c.outs≠[])(p:Pat)(hp:PatOk c.nodes p)(f:Flt)(hf:FltOk c.nodes f)(ord:List Nat)(aP:OrdOf c ord) :
 a09 L.env d (sem L.env Mf) (.func (.func 12) [] []) [.agg c.enc,.agg f.enc,.agg p.enc] H=some (.tuple [.bool ((b4z c ord).det f p),.int .i64 0],H,[]):=
 a04 (by kernel_rfl) (by kernel_rfl) rfl (by simp only[e9q,e9n,a0c,a1a,Cir.enc,Pat.enc,Flt.enc,go_sem]) (c6t c hc hO p hp f hf ord aP) rfl
end Go.QInst
