/- Part of a proof. No condition. -/
import Derived.Test.YtmiegcjnimlbmaaGreatDoorULg
import Derived.Test.YtmiegcjnimlbmaaGreatDoorAxD
import Derived.Test.YtmiegcjnimlbmaaGreatDoorPcB
set_option linter.unusedSectionVars false
set_option linter.unusedSimpArgs false
set_option linter.unusedVariables false
namespace Go.UInst
open Go.Proofs Go.Ax Go.Pc
variable [ZC]
set_option maxRecDepth 100000
theorem e2y(c:Cir)(X:AObj)(g n:Nat)(q:Int)(hq:q<0):sM 118 [.agg (ce c),.agg [.int .i64 n,.int .i64 q],.func (.func g) [] [.ptr 0 0 0]] [some X]=some (.ptr 4 0 0,[some X,some (.row 4 [ce c]),some (.row 2 [[.int .i64 n,.int .i64 q]]),some (.row 1 [[.func (.func g) [] [.ptr 0 0 0]]]),some (.row 7 [cz c [.nilslice,.func (.func 157) [] [.ptr 2 0 0,.ptr 3 0 0],.func (.func 156) [] []]])]):=by
 have hs:AV.storable (.func (.func g) [] [.ptr 0 0 0])=true:=rfl
 (refine sv Tryz.f118 ?_;simp only[Tryz.f118,gS])
 (repeat first|simp only[ww]|apply xa;simp+decide only[go_sem,hq,hs];rfl;kernel_rfl)
 refine a6p (vs:=[.ptr 4 0 0]) (by simp+decide only[go_sem]) ?_;simp+decide only[go_sem]<;>rfl
theorem e2x(c:Cir)(X:AObj)(g n:Nat)(q:Int)(hq:¬q<0):sM 118 [.agg (ce c),.agg [.int .i64 n,.int .i64 q],.func (.func g) [] [.ptr 0 0 0]] [some X]=some (.ptr 4 0 0,[some X,some (.row 4 [ce c]),some (.row 2 [[.int .i64 n,.int .i64 q]]),some (.row 1 [[.func (.func g) [] [.ptr 0 0 0]]]),some (.row 7 [cz c [.nilslice,.func (.func 155) [] [],.func (.func 158) [] [.ptr 2 0 0,.ptr 3 0 0]]])]):=by
 have hs:AV.storable (.func (.func g) [] [.ptr 0 0 0])=true:=rfl
 (refine sv Tryz.f118 ?_;simp only[Tryz.f118,gS])
 (repeat first|simp only[ww]|apply xa;simp+decide only[go_sem,hq,hs];rfl;kernel_rfl)
 refine a6p (vs:=[.ptr 4 0 0]) (by simp+decide only[go_sem]) ?_;simp+decide only[go_sem]<;>rfl
theorem e2w(c:Cir)(X Y:AObj)(g n:Nat)(q:Int)(hq:q<0):sM 118 [.agg (ce c),.agg [.int .i64 n,.int .i64 q],.func (.func g) [] [.ptr 0 0 0,.ptr 1 0 0]] [some X,some Y]=some (.ptr 5 0 0,[some X,some Y,some (.row 4 [ce c]),some (.row 2 [[.int .i64 n,.int .i64 q]]),some (.row 1 [[.func (.func g) [] [.ptr 0 0 0,.ptr 1 0 0]]]),some (.row 7 [cz c [.nilslice,.func (.func 157) [] [.ptr 3 0 0,.ptr 4 0 0],.func (.func 156) [] []]])]):=by
 have hs:AV.storable (.func (.func g) [] [.ptr 0 0 0,.ptr 1 0 0])=true:=rfl
 (refine sv Tryz.f118 ?_;simp only[Tryz.f118,gS])
 (repeat first|simp only[ww]|apply xa;simp+decide only[go_sem,hq,hs];rfl;kernel_rfl)
 refine a6p (vs:=[.ptr 5 0 0]) (by simp+decide only[go_sem]) ?_;simp+decide only[go_sem]<;>rfl
structure NetN(v:AV)(g:Nat->Nat->Nat):Prop where
 flat:refs v=[]
 sto:v.storable=true
 nn:a7g v=some v
 call:∀(d:Bool) (H:a03) (n w:Nat),a20 L.env d sM v [.int .i64 n,.int .u8 w] H=some (.int .u8 (g n w),H,[])
structure PinN(v:AV)(g:Nat->Nat->Nat->Nat):Prop where
 flat:refs v=[]
 sto:v.storable=true
 nn:a7g v=some v
 call:∀(d:Bool) (H:a03) (n p w:Nat),a20 L.env d sM v [.int .i64 n,.int .i64 p,.int .u8 w] H=some (.int .u8 (g n p w),H,[])
theorem d72(n:Int)(w:Nat):sM 155 [.int .i64 n,.int .u8 w] []=some (.int .u8 w,[]):=by
 (refine sv Tryz.f155 ?_;simp only[Tryz.f155,gS])
 (repeat first|simp only[ww]|apply xa;simp+decide only[go_sem];rfl;kernel_rfl)
 (apply fqb;simp+decide only[go_sem]<;>rfl)
theorem d74(n p:Int)(w:Nat):sM 156 [.int .i64 n,.int .i64 p,.int .u8 w] []=some (.int .u8 w,[]):=by
 (refine sv Tryz.f156 ?_;simp only[Tryz.f156,gS])
 (repeat first|simp only[ww]|apply xa;simp+decide only[go_sem];rfl;kernel_rfl)
 (apply fqb;simp+decide only[go_sem]<;>rfl)
theorem e5n:NetN (.func (.func 155) [] []) (λ_ w=>w):=⟨rfl,rfl,rfl,λd H n w=>cf rfl (d72 n w) rfl⟩
theorem d65:PinN (.func (.func 156) [] []) (λ_ _ w=>w):=⟨rfl,rfl,rfl,λd H n p w=>cf rfl (d74 n p w) rfl⟩
theorem nI{a b:Nat}(h:a≠b):¬(a:Int)=b:=by omega
theorem d55(n w a b v:Nat):sM 196 [.int .i64 n,.int .u8 w,.iptr [.int .i64 a],.iptr [.int .i64 b],.iptr [.int .u8 v]] []=some (.int .u8 (if n=a∨n=b then v else w:Nat),[]):=by
 by_cases h1:n=a
 ·subst h1;rw[f2w (.inl rfl)]
  (refine sv Tryz.f196 ?_;simp only[Tryz.f196,gS])
  (repeat first|simp only[ww]|apply xa;simp+decide only[go_sem];rfl;kernel_rfl)
  (apply fqb;simp+decide only[go_sem]<;>rfl)
 by_cases h2:n=b
 ·subst h2;rw[f2w (.inr rfl)];have h1:=nI h1
  (refine sv Tryz.f196 ?_;simp only[Tryz.f196,gS])
  (repeat first|simp only[ww]|apply xa;simp+decide only[go_sem,h1];rfl;kernel_rfl)
  (apply fqb;simp+decide only[go_sem]<;>rfl)
 ·rw[f2m (by omega)];have h1:=nI h1;have h2:=nI h2
  (refine sv Tryz.f196 ?_;simp only[Tryz.f196,gS])
  (repeat first|simp only[ww]|apply xa;simp+decide only[go_sem,h1,h2];rfl;kernel_rfl)
  (apply fqb;simp+decide only[go_sem]<;>rfl)
theorem d09(w:Nat)(G:List Nat)(b v m:Nat)(hb:G[b]?=some v)(hm:m=G.length):sM 197 [.int .u8 w,.iptr [.islice (G.map u8R) (some m)],.iptr [.int .i64 b]] []=some (.int .u8 v,[]):=by
 have ai:=(f1i.1 hb).1
 (refine sv Tryz.f197 ?_;simp only[Tryz.f197,gS])
 (repeat first|simp only[ww]|apply xa;simp+decide only[go_sem,hb,ai];rfl;kernel_rfl)
 (apply fqb;simp+decide only[go_sem]<;>rfl)
theorem d5i(w:Nat)(f:Flt):sM 198 [.int .u8 w,.iptr (fb f.model f.node f.pin f.value f.other)] []=some (.int .u8 f.value,[]):=by
 (refine sv Tryz.f198 ?_;simp only[Tryz.f198,gS])
 (repeat first|simp only[ww]|apply xa;simp+decide only[go_sem];rfl;kernel_rfl)
 (apply fqb;simp+decide only[go_sem]<;>rfl)
def c70(fV:AV)(v:Nat):Prop:=refs fV=[]∧∀(d:Bool) (H:a03) (w:Nat),a20 L.env d sM fV [.int .u8 w] H=some (.int .u8 v,H,[])
theorem d9p(n w a v:Nat)(q:Int)(fV:AV)(hf:c70 fV v)(az:fV.storable=true):sM 157 [.int .i64 n,.int .u8 w,.iptr [.int .i64 a,.int .i64 q],.iptr [fV]] []=some (.int .u8 (if n=a then v else w:Nat),[]):=by
 have hc:=hf.2;by_cases h1:n=a
 ·subst h1;rw[f2w rfl]
  (refine sv Tryz.f157 ?_;simp only[Tryz.f157,gS])
  (repeat first|simp only[ww]|apply xa;simp+decide only[go_sem,hc];rfl;kernel_rfl)
  (apply fqb;simp+decide only[go_sem]<;>rfl)
 ·rw[f2m h1];have h1:=nI h1
  (refine sv Tryz.f157 ?_;simp only[Tryz.f157,gS])
  (repeat first|simp only[ww]|apply xa;simp+decide only[go_sem,h1];rfl;kernel_rfl)
  (apply fqb;simp+decide only[go_sem]<;>rfl)
theorem e7p(n p w a v:Nat)(q:Int)(fV:AV)(hf:c70 fV v):sM 158 [.int .i64 n,.int .i64 p,.int .u8 w,.iptr [.int .i64 a,.int .i64 q],.iptr [fV]] []=some (.int .u8 (if n=a∧(p:Int)=q then v else w:Nat),[]):=by
 have hc:=hf.2;by_cases h1:n=a
 ·subst h1;by_cases h2:(p:Int)=q
  ·subst h2;rw[f2w ⟨rfl,rfl⟩]
   (refine sv Tryz.f158 ?_;simp only[Tryz.f158,gS])
   (repeat first|simp only[ww]|apply xa;simp+decide only[go_sem,hc];rfl;kernel_rfl)
   (apply fqb;simp+decide only[go_sem]<;>rfl)
  ·rw[f2m (λh=>h2 h.2)]
   (refine sv Tryz.f158 ?_;simp only[Tryz.f158,gS])
   (repeat first|simp only[ww]|apply xa;simp+decide only[go_sem,h2];rfl;kernel_rfl)
   (apply fqb;simp+decide only[go_sem]<;>rfl)
 ·rw[f2m (λh=>h1 h.1)];have h1:=nI h1
  (refine sv Tryz.f158 ?_;simp only[Tryz.f158,gS])
  (repeat first|simp only[ww]|apply xa;simp+decide only[go_sem,h1];rfl;kernel_rfl)
  (apply fqb;simp+decide only[go_sem]<;>rfl)
theorem d95(a b k:Nat)(hk:k<16):sM 154 [.int .u8 a,.int .u8 b,.iptr [.int .u8 k]] []=some (.int .u8 (a3p k [a,b]:Nat),[]):=by
 have iR:=λ(d:Bool)=>c1p (d:=d) (H:=[some (.row 1 [[.int .u8 a],[.int .u8 b]])]) (b:=0) k hk [a,b] (by simp) (some 2) [[.int .u8 a],[.int .u8 b]] (λr hr=>by simp at hr;rcases hr with rfl|rfl<;>rfl) rfl rfl (m:=2) rfl;generalize a3p k [a,b]=w at iR
 (refine sv Tryz.f154 ?_;simp only[Tryz.f154,gS])
 (repeat first|simp only[ww]|apply xa;simp+decide only[go_sem,iR];rfl;kernel_rfl)
 (apply fqb;simp+decide only[go_sem]<;>rfl)
theorem b48(v:Nat)(k:Nat)(hk:k=if v=1 then 7 else 5):sM 117 [.int .u8 v] []=some (.func (.func 154) [] [.iptr [.int .u8 k]],[]):=by
 subst hk;by_cases h:v=1
 ·have h1:(v:Int)=1:=by omega
  rw[f2w h]
  (refine sv Tryz.f117 ?_;simp only[Tryz.f117,gS])
  (repeat first|simp only[ww]|apply xa;simp+decide only[go_sem,h1];rfl;kernel_rfl)
  (apply fqb;simp+decide only[go_sem]<;>rfl)
 ·have h1:¬(v:Int)=1:=by omega
  rw[f2m h]
  (refine sv Tryz.f117 ?_;simp only[Tryz.f117,gS])
  (repeat first|simp only[ww]|apply xa;simp+decide only[go_sem,h1];rfl;kernel_rfl)
  (apply fqb;simp+decide only[go_sem]<;>rfl)
set_option maxHeartbeats 200000000
theorem e7r(c:Cir)(f:Flt)(G:List Nat)(hq:f.pin<0):cl false 118 [.agg (ce c),.agg [.int .i64 f.node,.int .i64 f.pin],.func (.func 198) [] [.ptr 1 0 0]] [some (.row 4 [ce c]),some (.row 5 [[.int .u8 f.model,.int .i64 f.node,.int .i64 f.pin,.int .u8 f.value,.int .i64 f.other]]),some (.row 1 [[.islice (G.map u8R) (some c.nodes.length)]]),some (.row 1 [[.int .i64 f.node]]),some (.row 1 [[.int .i64 f.other]])]=some (.ptr 8 0 0,[some (.row 4 [ce c]),some (.row 5 [[.int .u8 f.model,.int .i64 f.node,.int .i64 f.pin,.int .u8 f.value,.int .i64 f.other]]),some (.row 1 [[.islice (G.map u8R) (some c.nodes.length)]]),some (.row 1 [[.int .i64 f.node]]),some (.row 1 [[.int .i64 f.other]]),some (.row 4 [ce c]),some (.row 2 [[.int .i64 f.node,.int .i64 f.pin]]),some (.row 1 [[.func (.func 198) [] [.ptr 1 0 0]]]),some (.row 7 [cz c [.nilslice,.func (.func 157) [] [.ptr 6 0 0,.ptr 7 0 0],.func (.func 156) [] []]])],[1]):=by have h:=e2y c (.row 5 [[.int .u8 f.model,.int .i64 f.node,.int .i64 f.pin,.int .u8 f.value,.int .i64 f.other]]) 198 f.node f.pin hq;refine a93 (by kernel_rfl) (by kernel_rfl) rfl ((a1v (sM 118) _ [some (.row 4 [ce c]),some (.row 5 [[.int .u8 f.model,.int .i64 f.node,.int .i64 f.pin,.int .u8 f.value,.int .i64 f.other]]),some (.row 1 [[.islice (G.map u8R) (some c.nodes.length)]]),some (.row 1 [[.int .i64 f.node]]),some (.row 1 [[.int .i64 f.other]])] (σ:=[1]) (by simp+decide only[go_sem]) rfl rfl (by simp+decide only[go_sem]<;>rfl) (by simp+decide only[go_sem]<;>rfl) h).trans ?_);simp+decide only[go_sem]<;>rfl
theorem e7q(c:Cir)(f:Flt)(G:List Nat)(hq:¬f.pin<0):cl false 118 [.agg (ce c),.agg [.int .i64 f.node,.int .i64 f.pin],.func (.func 198) [] [.ptr 1 0 0]] [some (.row 4 [ce c]),some (.row 5 [[.int .u8 f.model,.int .i64 f.node,.int .i64 f.pin,.int .u8 f.value,.int .i64 f.other]]),some (.row 1 [[.islice (G.map u8R) (some c.nodes.length)]]),some (.row 1 [[.int .i64 f.node]]),some (.row 1 [[.int .i64 f.other]])]=some (.ptr 8 0 0,[some (.row 4 [ce c]),some (.row 5 [[.int .u8 f.model,.int .i64 f.node,.int .i64 f.pin,.int .u8 f.value,.int .i64 f.other]]),some (.row 1 [[.islice (G.map u8R) (some c.nodes.length)]]),some (.row 1 [[.int .i64 f.node]]),some (.row 1 [[.int .i64 f.other]]),some (.row 4 [ce c]),some (.row 2 [[.int .i64 f.node,.int .i64 f.pin]]),some (.row 1 [[.func (.func 198) [] [.ptr 1 0 0]]]),some (.row 7 [cz c [.nilslice,.func (.func 155) [] [],.func (.func 158) [] [.ptr 6 0 0,.ptr 7 0 0]]])],[1]):=by have h:=e2x c (.row 5 [[.int .u8 f.model,.int .i64 f.node,.int .i64 f.pin,.int .u8 f.value,.int .i64 f.other]]) 198 f.node f.pin hq;refine a93 (by kernel_rfl) (by kernel_rfl) rfl ((a1v (sM 118) _ [some (.row 4 [ce c]),some (.row 5 [[.int .u8 f.model,.int .i64 f.node,.int .i64 f.pin,.int .u8 f.value,.int .i64 f.other]]),some (.row 1 [[.islice (G.map u8R) (some c.nodes.length)]]),some (.row 1 [[.int .i64 f.node]]),some (.row 1 [[.int .i64 f.other]])] (σ:=[1]) (by simp+decide only[go_sem]) rfl rfl (by simp+decide only[go_sem]<;>rfl) (by simp+decide only[go_sem]<;>rfl) h).trans ?_);simp+decide only[go_sem]<;>rfl
theorem e7s(c:Cir)(f:Flt)(G:List Nat)(hq:f.pin<0):cl false 118 [.agg (ce c),.agg [.int .i64 f.node,.int .i64 f.pin],.func (.func 197) [] [.ptr 2 0 0,.ptr 4 0 0]] [some (.row 4 [ce c]),some (.row 5 [[.int .u8 f.model,.int .i64 f.node,.int .i64 f.pin,.int .u8 f.value,.int .i64 f.other]]),some (.row 1 [[.islice (G.map u8R) (some c.nodes.length)]]),some (.row 1 [[.int .i64 f.node]]),some (.row 1 [[.int .i64 f.other]])]=some (.ptr 8 0 0,[some (.row 4 [ce c]),some (.row 5 [[.int .u8 f.model,.int .i64 f.node,.int .i64 f.pin,.int .u8 f.value,.int .i64 f.other]]),some (.row 1 [[.islice (G.map u8R) (some c.nodes.length)]]),some (.row 1 [[.int .i64 f.node]]),some (.row 1 [[.int .i64 f.other]]),some (.row 4 [ce c]),some (.row 2 [[.int .i64 f.node,.int .i64 f.pin]]),some (.row 1 [[.func (.func 197) [] [.ptr 2 0 0,.ptr 4 0 0]]]),some (.row 7 [cz c [.nilslice,.func (.func 157) [] [.ptr 6 0 0,.ptr 7 0 0],.func (.func 156) [] []]])],[2,4]):=by have h:=e2w c (.row 1 [[.islice (G.map u8R) (some c.nodes.length)]]) (.row 1 [[.int .i64 f.other]]) 197 f.node f.pin hq;refine a93 (by kernel_rfl) (by kernel_rfl) rfl ((a1v (sM 118) _ [some (.row 4 [ce c]),some (.row 5 [[.int .u8 f.model,.int .i64 f.node,.int .i64 f.pin,.int .u8 f.value,.int .i64 f.other]]),some (.row 1 [[.islice (G.map u8R) (some c.nodes.length)]]),some (.row 1 [[.int .i64 f.node]]),some (.row 1 [[.int .i64 f.other]])] (σ:=[2,4]) (by simp+decide only[go_sem]) rfl rfl (by simp+decide only[go_sem]<;>rfl) (by simp+decide only[go_sem]<;>rfl) h).trans ?_);simp+decide only[go_sem]<;>rfl
def b00(c:Cir)(ag net pin:AV):AObj:=.row 7 [cz c [ag,net,pin]]
theorem d3c(c:Cir)(f:Flt)(hf:FltOk c.nodes f)(G:List Nat)(hG:G.length=c.nodes.length)(uc:∀v∈G,v<=3):∃net pin,NetN net (hkF f (a9z nAlg G f)).net∧PinN pin (hkF f (a9z nAlg G f)).pin∧
 sM 161 [.agg (ce c),.agg [.int .u8 f.model,.int .i64 f.node,.int .i64 f.pin,.int .u8 f.value,.int .i64 f.other],.islice (G.map u8R) (some c.nodes.length)] []=some (.ptr 0 0 0,[some (b00 c .nilslice net pin)]):=by
 rcases hf.model with hm|hm|hm
 · -- stuck
  have hv:a9z nAlg G f=f.value:=by unfold a9z;rw[f2w hm];rfl
  have m0:¬(f.model:Int)=2:=by omega
  have m1:¬(f.model:Int)=3:=by omega
  have hc:c70 (.func (.func 198) [] [.iptr [.int .u8 f.model,.int .i64 f.node,.int .i64 f.pin,.int .u8 f.value,.int .i64 f.other]]) f.value:=⟨rfl,λd H w=>cf rfl (d5i w f) rfl⟩
  rw[hv];by_cases hq:f.pin<0
  ·have bO:=e7r c f G hq;refine⟨.func (.func 157) [] [.iptr [.int .i64 f.node,.int .i64 f.pin],.iptr [.func (.func 198) [] [.iptr [.int .u8 f.model,.int .i64 f.node,.int .i64 f.pin,.int .u8 f.value,.int .i64 f.other]]]],.func (.func 156) [] [],⟨rfl,rfl,rfl,λd H n w=>?_⟩,?_,?_⟩
   ·have h1:=a0v (E:=L.env) (ah:=d) (call:=sM) (H:=H) (g:=157) (fs:=[]) (ar:=[.int .i64 n,.int .u8 w]) (cs:=[.iptr [.int .i64 f.node,.int .i64 f.pin],.iptr [.func (.func 198) [] [.iptr [.int .u8 f.model,.int .i64 f.node,.int .i64 f.pin,.int .u8 f.value,.int .i64 f.other]]]]) (by kernel_rfl) (by kernel_rfl) rfl rfl (d9p n w f.node f.value f.pin _ hc rfl) rfl;rw[h1];have:(if n=f.node then f.value else w)=(hkF f f.value).net n w:=by
     unfold hkF Flt.hitsNet;have h2:¬f.model=2:=by omega
     simp[hq,h2]
    rw[this]
   ·have:(hkF f f.value).pin=λ_ _ w=>w:=by
     funext n p w;unfold hkF Flt.hitsPin
     have:¬0<=f.pin:=by omega
     simp[this]
    rw[this];exact d65
   ·(refine sv Tryz.f161 ?_;simp only[Tryz.f161,gS])
    (repeat first|simp only[ww]|apply xa;simp+decide only[go_sem,m0,m1,bO];rfl;kernel_rfl)
    refine a6p (vs:=[.ptr 8 0 0]) (by simp+decide only[go_sem]) ?_;unfold b00;simp+decide only[go_sem]<;>rfl
  ·have bO:=e7q c f G hq;refine⟨.func (.func 155) [] [],.func (.func 158) [] [.iptr [.int .i64 f.node,.int .i64 f.pin],.iptr [.func (.func 198) [] [.iptr [.int .u8 f.model,.int .i64 f.node,.int .i64 f.pin,.int .u8 f.value,.int .i64 f.other]]]],?_,⟨rfl,rfl,rfl,λd H n p w=>?_⟩,?_⟩
   ·have:(hkF f f.value).net=λ_ w=>w:=by
     funext n w;unfold hkF Flt.hitsNet
     simp[hq]
    rw[this];exact e5n
   ·have h1:=a0v (E:=L.env) (ah:=d) (call:=sM) (H:=H) (g:=158) (fs:=[]) (ar:=[.int .i64 n,.int .i64 p,.int .u8 w]) (cs:=[.iptr [.int .i64 f.node,.int .i64 f.pin],.iptr [.func (.func 198) [] [.iptr [.int .u8 f.model,.int .i64 f.node,.int .i64 f.pin,.int .u8 f.value,.int .i64 f.other]]]]) (by kernel_rfl) (by kernel_rfl) rfl rfl (e7p n p w f.node f.value f.pin _ hc) rfl;rw[h1];have:(if n=f.node∧(p:Int)=f.pin then f.value else w)=(hkF f f.value).pin n p w:=by
     unfold hkF Flt.hitsPin;have:0<=f.pin:=by omega
     simp[this]
    rw[this]
   ·(refine sv Tryz.f161 ?_;simp only[Tryz.f161,gS])
    (repeat first|simp only[ww]|apply xa;simp+decide only[go_sem,m0,m1,bO];rfl;kernel_rfl)
    refine a6p (vs:=[.ptr 8 0 0]) (by simp+decide only[go_sem]) ?_;unfold b00;simp+decide only[go_sem]<;>rfl
 · -- wired
  have hb:=hf.bridge (by omega);have m0:(f.model:Int)=2:=by omega
  obtain⟨va,gv⟩:∃v,G[f.node]?=some v:=⟨_,z9e (by rw[hG];exact hf.node)⟩
  obtain⟨vb,kR⟩:∃v,G[f.other]?=some v:=⟨_,z9e (by rw[hG];exact hf.other)⟩
  obtain⟨k,hk⟩:∃k,k=if f.value=1 then 7 else 5:=⟨_,rfl⟩
  have bH:k<16:=by rw[hk];split<;>omega
  have hv:a9z nAlg G f=a3p k [va,vb]:=by
   have h1:¬f.model=0:=by omega
   have h2:¬f.model=3:=by omega
   have h3:=hf.value;have e:∀k,nAlg.ev k [G.getD f.node nAlg.z,G.getD f.other nAlg.z]=a3p k [va,vb]:=λk=>by
    show a3p k (([G.getD f.node 0,G.getD f.other 0]:List Nat).map a51)=_;rw[List.getD,gv,List.getD,kR]
    congr 1
    exact b4u (λv hv=>by simp at hv;rcases hv with rfl|rfl;exact uc _ (c11 gv);exact uc _ (c11 kR))
   unfold a9z;rw[f2m h1,f2m h2];by_cases h4:f.value=0
   ·rw[f2w h4,e,hk,f2m (by omega)]
   ·rw[f2m h4,e,hk,f2w (by omega)]
  have bS:=λ(d:Bool) (H:a03)=>a0v (E:=L.env) (ah:=d) (call:=sM) (H:=H) (g:=117) (fs:=[]) (ar:=[.int .u8 f.value]) (cs:=[]) (by kernel_rfl) (by kernel_rfl) rfl rfl (b48 f.value k hk) rfl;have pd:=λ(d:Bool) (H:a03)=>a0v (E:=L.env) (ah:=d) (call:=sM) (H:=H) (g:=154) (fs:=[]) (ar:=[.int .u8 va,.int .u8 vb]) (cs:=[.iptr [.int .u8 k]]) (by kernel_rfl) (by kernel_rfl) rfl rfl (d95 va vb k bH) rfl;rw[hv];generalize a3p k [va,vb]=w0 at pd⊢;have bE:=hf.node;have gW:=hf.other;refine⟨.func (.func 196) [] [.iptr [.int .i64 f.node],.iptr [.int .i64 f.other],.iptr [.int .u8 w0]],.func (.func 156) [] [],⟨rfl,rfl,rfl,λd H n w=>?_⟩,?_,?_⟩
  ·have h1:=a0v (E:=L.env) (ah:=d) (call:=sM) (H:=H) (g:=196) (fs:=[]) (ar:=[.int .i64 n,.int .u8 w]) (cs:=[.iptr [.int .i64 f.node],.iptr [.int .i64 f.other],.iptr [.int .u8 w0]]) (by kernel_rfl) (by kernel_rfl) rfl rfl (d55 n w f.node f.other w0) rfl;rw[h1];have:(if n=f.node∨n=f.other then w0 else w)=(hkF f w0).net n w:=by
    unfold hkF Flt.hitsNet;simp[hb.1,hm]
   rw[this]
  ·have:(hkF f w0).pin=λ_ _ w=>w:=by
    funext n p w;unfold hkF Flt.hitsPin
    simp[hb.1]
   rw[this];exact d65
  ·(refine sv Tryz.f161 ?_;simp only[Tryz.f161,gS])
   (repeat first|simp only[ww]|apply xa;simp+decide only[go_sem,m0,bS,pd,gv,kR,hG,bE,gW];rfl;kernel_rfl)
   refine a6p (vs:=[.ptr 6 0 0]) (by simp+decide only[go_sem]) ?_;unfold b00;simp+decide only[go_sem]<;>rfl
 · -- strong
  have hb:=hf.bridge (by omega);have hq:f.pin<0:=by rw[hb.1];decide
  have m0:¬(f.model:Int)=2:=by omega
  have m1:(f.model:Int)=3:=by omega
  obtain⟨vb,kR⟩:∃v,G[f.other]?=some v:=⟨_,z9e (by rw[hG];exact hf.other)⟩
  have hv:a9z nAlg G f=vb:=by unfold a9z;rw[f2m (by omega),f2w hm,List.getD,kR];rfl
  have bO:=e7s c f G hq;rw[m1]at bO;have hc:c70 (.func (.func 197) [] [.iptr [.islice (G.map u8R) (some c.nodes.length)],.iptr [.int .i64 f.other]]) vb:=⟨rfl,λd H w=>cf rfl (d09 w G f.other vb c.nodes.length kR hG.symm) rfl⟩
  rw[hv];refine⟨.func (.func 157) [] [.iptr [.int .i64 f.node,.int .i64 f.pin],.iptr [.func (.func 197) [] [.iptr [.islice (G.map u8R) (some c.nodes.length)],.iptr [.int .i64 f.other]]]],.func (.func 156) [] [],⟨rfl,rfl,rfl,λd H n w=>?_⟩,?_,?_⟩
  ·have h1:=a0v (E:=L.env) (ah:=d) (call:=sM) (H:=H) (g:=157) (fs:=[]) (ar:=[.int .i64 n,.int .u8 w]) (cs:=[.iptr [.int .i64 f.node,.int .i64 f.pin],.iptr [.func (.func 197) [] [.iptr [.islice (G.map u8R) (some c.nodes.length)],.iptr [.int .i64 f.other]]]]) (by kernel_rfl) (by kernel_rfl) rfl rfl (d9p n w f.node vb f.pin _ hc rfl) rfl;rw[h1];have:(if n=f.node then vb else w)=(hkF f vb).net n w:=by
    unfold hkF Flt.hitsNet;have h2:¬f.model=2:=by omega
    simp[hq,h2]
   rw[this]
  ·have:(hkF f vb).pin=λ_ _ w=>w:=by
    funext n p w;unfold hkF Flt.hitsPin
    have:¬0<=f.pin:=by omega
    simp[this]
   rw[this];exact d65
  ·(refine sv Tryz.f161 ?_;simp only[Tryz.f161,gS])
   (repeat first|simp only[ww]|apply xa;simp+decide only[go_sem,m0,m1,bO];rfl;kernel_rfl)
   refine a6p (vs:=[.ptr 8 0 0]) (by simp+decide only[go_sem]) ?_;unfold b00;simp+decide only[go_sem]<;>rfl
attribute [go_sem] b00
theorem e70{m:Nat}{d:AV->Option AV}(l:List Nat):a9t m d (l.map u8R)=some (l.map u8R):=a0z m d (a2t l)
theorem d2k(c:Cir)(hc:c.wf)(net pin:AV)(g:Hk Nat)(h1:refs net=[])(h2:PinN pin g.pin)(ag:List Nat)(hl:ag.length=c.nodes.length)(n:Nat)(hn:n<c.nodes.length) :
 sM 160 [.ptr 0 0 0,.int .i64 n] [some (b00 c (.slice 1 0 c.nodes.length (some c.nodes.length)) net pin),some (.row 1 (ag.map u8R))]=some (sl none ((a1o nAlg c.nodes g ag n).map u8R),[some (b00 c (.slice 1 0 c.nodes.length (some c.nodes.length)) net pin),some (.row 1 (ag.map u8R))]):=by
 have dH:=hc.len;obtain⟨x,hx⟩:∃x,c.nodes[n]?=some x:=⟨_,z9e hn⟩
 have ep:=c11 hx;have bQ:=hc.insl ep;have bT:(a1o nAlg c.nodes g ag n).length=x.ins.length:=by rw[a9i,a1s hx]
 have h3:=h2.flat;have e1:∀π,ren π net=net:=λπ=>a0b π _ h1;have e2:∀π,ren π pin=pin:=λπ=>a0b π _ h3;have oh:=h2.call;unfold b00
 (refine sv Tryz.f160 ?_;simp only[Tryz.f160,gS])
 (repeat first|simp only[ww]|apply xa;simp+decide only[go_sem,hx,hn];rfl;kernel_rfl)
 refine a0m (σ:=Nat) kp160_0 (λi=>[(0,.ptr 0 0 0),(1,.int .i64 n),(5,grV 2 (((a1o nAlg c.nodes g ag n).take i).map u8R)),(16,sl x.c (x.ins.map a13)),(17,.int .i64 x.ins.length),(18,.int .i64 i)])
  (λi=>[some (.row 7 [cz c [.slice 1 0 c.nodes.length (some c.nodes.length),net,pin]]),some (.row 1 (ag.map u8R))]++grH 1 (((a1o nAlg c.nodes g ag n).take i).map u8R)) (λi=>x.ins.length-i) (λi=>i<=x.ins.length) 0 ?_ (f2i _) ?_
 ·(simp+decide only[go_sem,a01,a00,f2j,f1g,a0r,a0s,h1,h3,e1,e2,a32,a3b]<;>rfl)
 ·intro i hi;by_cases ai:i<x.ins.length
  ·obtain⟨m,hm⟩:∃m,x.ins[i]?=some m:=⟨_,z9e ai⟩
   have bW:=hc.ins x ep m (c11 hm);obtain⟨w,hw⟩:∃w,ag[m]?=some w:=⟨_,z9e (by omega)⟩
   have c1:(i:Int)<x.ins.length:=by omega
   have aS:=wI1 (n:=i) (by omega);have hs:=b74 (A:=nAlg) (h:=g) (ag:=ag) (by rw[a1s hx];exact hm) hw;have dE:((a1o nAlg c.nodes g ag n).take i).length=i:=by rw[f2z];omega
   generalize(a1o nAlg c.nodes g ag n).take i=T at hs dE;cases T with
   |nil=>
    (repeat first|simp only[ww]|apply xa;simp+decide only[go_sem,c1,ai,hm,bW,hw,aS,oh,hl,f1g,a0r,a0s];rfl;kernel_rfl)
    refine a1m (i+1) ?_ (by omega) (by omega);rw[hs]
    (simp+decide only[go_sem,a01,a00,f1a,f1g,f1e,a09,a0a,f1h,h1,h3,e1,e2,a32,a3b]<;>rfl)
   |cons a r=>
    simp only[f1c]at dE;have aD:r.length+1+1<=1000000000:=by omega
    (repeat first|simp only[ww]|apply xa;simp+decide only[go_sem,c1,ai,hm,bW,hw,aS,oh,hl,f1a,a09,a0a,aD,f1c];rfl;kernel_rfl)
    refine a1m (i+1) ?_ (by omega) (by omega);rw[hs]
    (simp+decide only[go_sem,a01,a00,f1a,f1g,f2o,a09,a0a,f1c,h1,h3,e1,e2,a32,a3b]<;>rfl)
  ·obtain rfl:i=x.ins.length:=by omega
   have c1:¬(x.ins.length:Int)<x.ins.length:=by omega
   rw[f1k (by omega)];generalize a1o nAlg c.nodes g ag n=T;cases T with
   |nil=>
    (repeat first|simp only[ww]|apply xa;simp+decide only[go_sem,c1,f1g,a0r,a0s];rfl;kernel_rfl)
    (apply fqb;simp+decide only[go_sem,a3b,f1g,e1,e2]<;>rfl)
   |cons a r=>
    (repeat first|simp only[ww]|apply xa;simp+decide only[go_sem,c1,f1a,a09,a0a];rfl;kernel_rfl)
    (apply fqb;simp+decide only[go_sem,a3b,e70,f1a,a8m,e1,e2]<;>rfl)
theorem c6f(c:Cir)(net pin:AV)(h1:refs net=[])(h2:refs pin=[]):a12 (some (b00 c (.slice 1 0 c.nodes.length (some c.nodes.length)) net pin))=[1]:=by simp+decide only[go_sem,h1,h2]
theorem b9x(c:Cir)(net pin:AV)(h1:refs net=[])(h2:refs pin=[])(π:Nat->Option Nat)(hπ:π 1=some 1):a0g π (b00 c (.slice 1 0 c.nodes.length (some c.nodes.length)) net pin)=b00 c (.slice 1 0 c.nodes.length (some c.nodes.length)) net pin:=by have e1:∀π,ren π net=net:=λπ=>a0b π _ h1;have e2:∀π,ren π pin=pin:=λπ=>a0b π _ h2;simp+decide only[go_sem,e1,e2,hπ]
theorem b57{d:Bool}(R:a03)(c:Cir)(hc:c.wf)(net pin:AV)(g:Hk Nat)(h1:refs net=[])(h2:PinN pin g.pin)(ag:List Nat)(hl:ag.length=c.nodes.length)(n:Nat)(hn:n<c.nodes.length) :
 cl d 160 [.ptr 0 0 0,.int .i64 n] (some (b00 c (.slice 1 0 c.nodes.length (some c.nodes.length)) net pin)::some (.row 1 (ag.map u8R))::R)=some (sl none ((a1o nAlg c.nodes g ag n).map u8R),some (b00 c (.slice 1 0 c.nodes.length (some c.nodes.length)) net pin)::some (.row 1 (ag.map u8R))::R,[0,1]):=
 c6o (by kernel_rfl) (by kernel_rfl) rfl rfl (c6f c net pin h1 h2.flat) (a0p (a2t ag)) rfl (b9x c net pin h1 h2.flat _ rfl) (λn=>b9x c net pin h1 h2.flat _ rfl) (FlatO.row (a2t ag)) (d2k c hc net pin g h1 h2 ag hl n hn) (a16 _ _)
theorem d76(c:Cir)(hc:c.wf)(net pin:AV)(g:Hk Nat)(h1:refs net=[])(h2:PinN pin g.pin)(ag:List Nat)(hl:ag.length=c.nodes.length)(n:Nat)(hn:n<c.nodes.length)(hv:∀v∈a1o nAlg c.nodes g ag n,v<=3) :
 sM 159 [.ptr 0 0 0,.int .i64 n] [some (b00 c (.slice 1 0 c.nodes.length (some c.nodes.length)) net pin),some (.row 1 (ag.map u8R))]=some (.int .u8 (nAlg.ev (a0u c.nodes n) (a1o nAlg c.nodes g ag n):Nat),[some (b00 c (.slice 1 0 c.nodes.length (some c.nodes.length)) net pin),some (.row 1 (ag.map u8R))]):=by
 have dH:=hc.len;obtain⟨x,hx⟩:∃x,c.nodes[n]?=some x:=⟨_,z9e hn⟩
 have ep:=c11 hx;have bQ:=hc.insl ep;have k14:=hc.kind x ep;have bT:(a1o nAlg c.nodes g ag n).length=x.ins.length:=by rw[a9i,a1s hx]
 have h3:=h2.flat;have e1:∀π,ren π net=net:=λπ=>a0b π _ h1;have e2:∀π,ren π pin=pin:=λπ=>a0b π _ h3;have kc:=λ(d:Bool)=>b57 (d:=d) [] c hc net pin g h1 h2 ag hl n hn;have iR:=λ(d:Bool)=>c8f (V:=sl none ((a1o nAlg c.nodes g ag n).map u8R)) (.imm none) (by omega) (d:=d) x.kind (by omega);have he:nAlg.ev (a0u c.nodes n) (a1o nAlg c.nodes g ag n)=a3p x.kind (a1o nAlg c.nodes g ag n):=by rw[a0x hx];show a3p x.kind ((a1o nAlg c.nodes g ag n).map a51)=_;rw[b4u hv]
 rw[he];have iR:∀(d:Bool) (H:a03),cl d 62 [.int .u8 x.kind,sl none ((a1o nAlg c.nodes g ag n).map u8R)] H=some (.int .u8 (a3p x.kind (a1o nAlg c.nodes g ag n):Nat),H,[]):=λd H=>cf (by simp only[f1e,f1b,go_sem]) (b9a x.kind (by omega) _ _ _ (.imm none) (by omega)) rfl;generalize a3p x.kind (a1o nAlg c.nodes g ag n)=w at iR⊢;generalize(a1o nAlg c.nodes g ag n).map u8R=R at kc iR;unfold b00 at kc⊢
 (refine sv Tryz.f159 ?_;simp only[Tryz.f159,gS])
 (repeat first|simp only[ww]|apply xa;simp+decide only[go_sem,hx,hn,kc,iR];rfl;kernel_rfl)
 (apply fqb;simp+decide only[go_sem,a3b,e1,e2]<;>rfl)
theorem c8l{d:Bool}(R:a03)(c:Cir)(hc:c.wf)(net pin:AV)(g:Hk Nat)(h1:refs net=[])(h2:PinN pin g.pin)(ag:List Nat)(hl:ag.length=c.nodes.length)(n:Nat)(hn:n<c.nodes.length)(hv:∀v∈a1o nAlg c.nodes g ag n,v<=3) :
 a20 L.env d sM (.func (.func 159) [.ptr 0 0 0] []) [.int .i64 n] (some (b00 c (.slice 1 0 c.nodes.length (some c.nodes.length)) net pin)::some (.row 1 (ag.map u8R))::R)=some (.int .u8 (nAlg.ev (a0u c.nodes n) (a1o nAlg c.nodes g ag n):Nat),some (b00 c (.slice 1 0 c.nodes.length (some c.nodes.length)) net pin)::some (.row 1 (ag.map u8R))::R,[0,1]):=
 c6o (by kernel_rfl) (by kernel_rfl) rfl rfl (c6f c net pin h1 h2.flat) (a0p (a2t ag)) rfl (b9x c net pin h1 h2.flat _ rfl) (λn=>b9x c net pin h1 h2.flat _ rfl) (FlatO.row (a2t ag)) (d76 c hc net pin g h1 h2 ag hl n hn hv) rfl
def a9u(c:Cir)(ord:List Nat)(g:Hk Nat)(p:Pat):List Nat:=c84 nAlg c.nodes g ord (kinds c.nodes 0) (kinds c.nodes 14) p.ins p.sts
theorem d2i(c:Cir)(hc:c.wf)(hO:c.outs≠[])(p:Pat)(hp:PatOk c.nodes p)(ord:List Nat)(aH:OrdOf c ord)(net pin:AV)(g:Hk Nat)(h1:NetN net g.net)(h2:PinN pin g.pin)(hg:d51 g) :
 sM 120 [.ptr 0 0 0,.agg [sl p.ic (p.ins.map u8R),sl p.sc (p.sts.map u8R)]] [some (b00 c .nilslice net pin)]=some (a7j (a17 c.outs (a9u c ord g p)) (a62 c.nodes g (a9u c ord g p) (kinds c.nodes 14)),[some (b00 c .junk net pin)]):=by
 have dH:=hc.len;have cE:=hc.outl;have aD:c.nodes.length<=1000000000:=by omega
 obtain⟨r0,e3⟩:=a4g (kinds c.nodes 0);obtain⟨r1,e4⟩:=a4g (kinds c.nodes 14);have hk0:=a4d c.nodes 0;have lF:=a4d c.nodes 14;have hi:=λ(d:Bool) H=>a3q (d:=d) H c (by omega);have hs:=λ(d:Bool) H=>a6d (d:=d) H c (by omega);rw[e3]at hi;rw[e4]at hs;have ho:=aH.call;simp only[Cir.enc]at hi hs ho;have bM:∀n∈ord,n<c.nodes.length:=λn hn=>by have:=aH.perm.mem_iff.1 hn;simpa using this
 have tu:ord.length=c.nodes.length:=by rw[aH.perm.length_eq];simp
 have oY:=hp.ins;have dV:=hp.sts;have n3:=h1.flat;have p3:=h2.flat;have n4:=h1.sto;have p4:=h2.sto;have e1:∀π,ren π net=net:=λπ=>a0b π _ n3;have e2:∀π,ren π pin=pin:=λπ=>a0b π _ p3;have rD:=h1.call;have hB:a9u c ord g p=ord.foldl (Pc.stepG nAlg c.nodes g) (a25 (a25 (List.replicate c.nodes.length 0) (kinds c.nodes 0) p.ins) (kinds c.nodes 14) p.sts):=rfl;rw[hB];have rj:(List.replicate c.nodes.length 0).map u8R=List.replicate c.nodes.length [AV.int .u8 0]:=by rw[f8y];rfl
 have iZ:∀v∈a25 (a25 (List.replicate c.nodes.length 0) (kinds c.nodes 0) p.ins) (kinds c.nodes 14) p.sts,v<=3:=b4w _ _ _ (b4w _ _ _ (λv hv=>by rw[f4t hv];omega) hp.inv) hp.stv
 suffices qy:∃r:AV×a03,(r=(a7j (a17 c.outs (ord.foldl (Pc.stepG nAlg c.nodes g) (a25 (a25 (List.replicate c.nodes.length 0) (kinds c.nodes 0) p.ins) (kinds c.nodes 14) p.sts))) (a62 c.nodes g (ord.foldl (Pc.stepG nAlg c.nodes g) (a25 (a25 (List.replicate c.nodes.length 0) (kinds c.nodes 0) p.ins) (kinds c.nodes 14) p.sts)) (kinds c.nodes 14)),[some (b00 c .junk net pin)]))∧sM 120 [.ptr 0 0 0,.agg [sl p.ic (p.ins.map u8R),sl p.sc (p.sts.map u8R)]] [some (b00 c .nilslice net pin)]=some r by obtain⟨r,rfl,h3⟩:=qy;exact h3
 unfold b00
 (refine svE Tryz.f120 ?_;simp only[Tryz.f120,gS])
 (repeat first|simp only[ww]|apply xa;simp+decide only[go_sem,aD,hs,hi,n4,p4];rfl;kernel_rfl)
 refine a0m (σ:=Nat) kp120_0 (λi=>[(0,.ptr 0 0 0),(3,.ptr 2 0 0),(4,.ptr 3 0 0),(5,sl r1 ((kinds c.nodes 14).map a13)),(41,sl r0 ((kinds c.nodes 0).map a13)),(42,.int .i64 (kinds c.nodes 0).length),(43,.int .i64 i)])
  (λi=>[some (.row 7 [cz c [.slice 1 0 c.nodes.length (some c.nodes.length),net,pin]]),some (.row 1 ((a25 (List.replicate c.nodes.length 0) ((kinds c.nodes 0).take i) (p.ins.take i)).map u8R)),some (.row 2 [[sl p.ic (p.ins.map u8R),sl p.sc (p.sts.map u8R)]]),some (.row 2 [[.nilslice,.nilslice]])]) (λi=>(kinds c.nodes 0).length-i) (λi=>i<=(kinds c.nodes 0).length) 0 ?_ (f2i _) ?_
 ·rw[f2j,f2j,show a25 (List.replicate c.nodes.length 0) [] []=(List.replicate c.nodes.length 0)from rfl,rj]
  (simp+decide only[go_sem,a01,a00,a3b,a32,n3,p3,e1,e2]<;>rfl)<;>rfl
 ·intro i jw;have a7:=a4w ((kinds c.nodes 0).take i) (p.ins.take i) (List.replicate c.nodes.length 0);rw[f9i]at a7;by_cases ai:i<(kinds c.nodes 0).length
  ·obtain⟨n,hn⟩:∃n,(kinds c.nodes 0)[i]?=some n:=⟨_,z9e ai⟩
   obtain⟨w,hw⟩:∃w,p.ins[i]?=some w:=⟨_,z9e (by omega)⟩
   have bG:=(a7d hn).1;have az:=a9n (ag:=(List.replicate c.nodes.length 0)) hn hw;have c1:(i:Int)<(kinds c.nodes 0).length:=by omega
   have aS:=wI1 (n:=i) (by omega);have ns:i<p.ins.length:=by omega
   generalize a25 (List.replicate c.nodes.length 0) ((kinds c.nodes 0).take i) (p.ins.take i)=N at az a7;obtain⟨w0,cA⟩:∃w,N[n]?=some w:=⟨_,z9e (by omega)⟩
   have j8:(N.map u8R).set n [AV.int .u8 w]=(N.set n w).map u8R:=by rw[f6y];rfl
   (repeat first|simp only[ww]|apply xa;simp+decide only[go_sem,c1,ai,hn,hw,bG,aS,ns,a7,cA,j8];rfl;kernel_rfl)
   refine a1m (i+1) ?_ (by omega) (by omega);rw[az]
   (simp+decide only[go_sem,a01,a00,a3b,a32,n3,p3,e1,e2]<;>rfl)<;>rfl
  have dA:i=(kinds c.nodes 0).length:=by omega
  subst dA;have c1:¬((kinds c.nodes 0).length:Int)<(kinds c.nodes 0).length:=by omega
  rw[f6p,f1k (by omega)]at a7⊢;generalize a25 (List.replicate c.nodes.length 0) (kinds c.nodes 0) p.ins=N0 at a7 iZ⊢;have qL:=a7;clear a7
  (repeat first|simp only[ww]|apply xa;simp+decide only[go_sem,c1];rfl;kernel_rfl)
  refine a0m (σ:=Nat) kp120_2 (λi=>[(0,.ptr 0 0 0),(3,.ptr 2 0 0),(4,.ptr 3 0 0),(5,sl r1 ((kinds c.nodes 14).map a13)),(60,sl r1 ((kinds c.nodes 14).map a13)),(61,.int .i64 (kinds c.nodes 14).length),(62,.int .i64 i)])
   (λi=>[some (.row 7 [cz c [.slice 1 0 c.nodes.length (some c.nodes.length),net,pin]]),some (.row 1 ((a25 N0 ((kinds c.nodes 14).take i) (p.sts.take i)).map u8R)),some (.row 2 [[sl p.ic (p.ins.map u8R),sl p.sc (p.sts.map u8R)]]),some (.row 2 [[.nilslice,.nilslice]])]) (λi=>(kinds c.nodes 14).length-i) (λi=>i<=(kinds c.nodes 14).length) 0 ?_ (f2i _) ?_
  ·rw[f2j,f2j,show a25 N0 [] []=N0 from rfl]
   (simp+decide only[go_sem,a01,a00,a3b,a32,n3,p3,e1,e2]<;>rfl)<;>rfl
  ·intro i jw;have a7:=a4w ((kinds c.nodes 14).take i) (p.sts.take i) N0;rw[qL]at a7;by_cases ai:i<(kinds c.nodes 14).length
   ·obtain⟨n,hn⟩:∃n,(kinds c.nodes 14)[i]?=some n:=⟨_,z9e ai⟩
    obtain⟨w,hw⟩:∃w,p.sts[i]?=some w:=⟨_,z9e (by omega)⟩
    have bG:=(a7d hn).1;have az:=a9n (ag:=N0) hn hw;have c1:(i:Int)<(kinds c.nodes 14).length:=by omega
    have aS:=wI1 (n:=i) (by omega);have ns:i<p.sts.length:=by omega
    generalize a25 N0 ((kinds c.nodes 14).take i) (p.sts.take i)=N at az a7;obtain⟨w0,cA⟩:∃w,N[n]?=some w:=⟨_,z9e (by omega)⟩
    have j8:(N.map u8R).set n [AV.int .u8 w]=(N.set n w).map u8R:=by rw[f6y];rfl
    (repeat first|simp only[ww]|apply xa;simp+decide only[go_sem,c1,ai,hn,hw,bG,aS,ns,a7,cA,j8];rfl;kernel_rfl)
    refine a1m (i+1) ?_ (by omega) (by omega);rw[az]
    (simp+decide only[go_sem,a01,a00,a3b,a32,n3,p3,e1,e2]<;>rfl)<;>rfl
   have dA:i=(kinds c.nodes 14).length:=by omega
   subst dA;have c1:¬((kinds c.nodes 14).length:Int)<(kinds c.nodes 14).length:=by omega
   rw[f6p,f1k (by omega)]at a7⊢;generalize a25 N0 (kinds c.nodes 14) p.sts=N1 at a7 iZ⊢;have qf:=a7;clear a7
   (repeat first|simp only[ww]|apply xa;simp+decide only[go_sem,c1,ho];rfl;kernel_rfl)
   refine a3i kp120_4 (λn F H=>∃i,n=ord.length-i∧i<=ord.length∧(∀v∈(ord.take i).foldl (Pc.stepG nAlg c.nodes g) N1,v<=3)∧F=[(0,.ptr 0 0 0),(4,.ptr 2 0 0),(5,sl r1 ((kinds c.nodes 14).map a13)),(12,.func (.func 159) [.ptr 0 0 0] []),(89,.islice (ord.map a13) (some c.nodes.length)),(90,.int .i64 ord.length),(91,.int .i64 i)]∧H=[some (.row 7 [cz c [.slice 1 0 c.nodes.length (some c.nodes.length),net,pin]]),some (.row 1 (((ord.take i).foldl (Pc.stepG nAlg c.nodes g) N1).map u8R)),some (.row 2 [[.nilslice,.nilslice]])]) ord.length ?_ ?_
   ·refine⟨_,_,?_,0,rfl,f2i _,by rw[f2j];exact iZ,rfl,rfl⟩;rw[f2j,List.foldl_nil]
    (simp+decide only[go_sem,a01,a00,a3b,a32,n3,p3,e1,e2]<;>rfl)<;>rfl
   ·rintro n F H ⟨i,rfl,pJ,jz,rfl,rfl⟩
    have a7:=b9q (A:=nAlg) (nodes:=c.nodes) (h:=g) (ord.take i) N1;rw[qf]at a7;by_cases ai:i<ord.length
    ·obtain⟨n,hn⟩:∃n,ord[i]?=some n:=⟨_,z9e ai⟩
     have bG:=bM n (c11 hn);obtain⟨x,hx⟩:∃x,c.nodes[n]?=some x:=⟨_,z9e bG⟩
     have ep:=c11 hx;have k14:=hc.kind x ep;have ox:=a0x hx;have az:=c27 (A:=nAlg) (nodes:=c.nodes) (h:=g) (ag:=N1) hn;have c1:(i:Int)<ord.length:=by omega
     have aS:=wI1 (n:=i) (by omega);generalize(ord.take i).foldl (Pc.stepG nAlg c.nodes g) N1=N at az a7 jz;have jn:∀v∈Pc.stepG nAlg c.nodes g N n,v<=3:=d0c hg jz n;obtain⟨w0,cA⟩:∃w,N[n]?=some w:=⟨_,z9e (by omega)⟩
     by_cases hk:x.kind≠0∧x.kind≠14
     ·have c2:¬(x.kind:Int)=0:=by omega
      have c3:¬(x.kind:Int)=14:=by omega
      have qI:∀v∈a1o nAlg c.nodes g N n,v<=3:=λv hv=>c5b hg jz n _ _ v hv;have iR:=λ(d:Bool) (R:a03)=>c8l (d:=d) R c hc net pin g n3 h2 N a7 n bG qI;unfold b00 at iR;have bF:Pc.stepG nAlg c.nodes g N n=N.set n (g.net n (nAlg.ev (a0u c.nodes n) (a1o nAlg c.nodes g N n))):=by unfold Pc.stepG;rw[ox,f2w hk]
      rw[bF]at az jn;generalize nAlg.ev (a0u c.nodes n) (a1o nAlg c.nodes g N n)=w at iR az jn;have j8:(N.map u8R).set n [AV.int .u8 w]=(N.set n w).map u8R:=by rw[f6y];rfl
      have lq:(N.set n w)[n]?=some w:=by rw[f3a];simp;omega
      have uN:(N.set n w).length=c.nodes.length:=by rw[f4q];exact a7
      have ej:((N.set n w).map u8R).set n [AV.int .u8 (g.net n w)]=(N.set n (g.net n w)).map u8R:=by have e:(N.set n (g.net n w))=(N.set n w).set n (g.net n w):=(List.set_set ..).symm;rw[e,f6y (l:=N.set n w)];rfl
      (repeat first|simp only[ww]|apply xa;simp+decide only[go_sem,c1,ai,hn,bG,hx,c2,c3,iR,a7,cA,j8,lq,uN,rD,ej,aS];rfl;kernel_rfl)
      refine a0y (ord.length-(i+1)) (by omega) ⟨_,_,?_,i+1,rfl,ai,by rw[az];exact jn,rfl,rfl⟩;rw[az]
      (simp+decide only[go_sem,a01,a00,a3b,a32,n3,p3,e1,e2]<;>rfl)<;>rfl
     ·have bF:Pc.stepG nAlg c.nodes g N n=N.set n (g.net n w0):=by
       unfold Pc.stepG;rw[ox,f2m hk,List.getD,cA];rfl
      rw[bF]at az jn;have ej:(N.map u8R).set n [AV.int .u8 (g.net n w0)]=(N.set n (g.net n w0)).map u8R:=by rw[f6y];rfl
      have kn:x.kind=0∨x.kind=14:=by omega
      rcases kn with kn|kn
      ·have c2:(x.kind:Int)=0:=by omega
       (repeat first|simp only[ww]|apply xa;simp+decide only[go_sem,c1,ai,hn,bG,hx,c2,a7,cA,rD,ej,aS];rfl;kernel_rfl)
       refine a0y (ord.length-(i+1)) (by omega) ⟨_,_,?_,i+1,rfl,ai,by rw[az];exact jn,rfl,rfl⟩;rw[az]
       (simp+decide only[go_sem,a01,a00,a3b,a32,n3,p3,e1,e2]<;>rfl)<;>rfl
      ·have c3:(x.kind:Int)=14:=by omega
       (repeat first|simp only[ww]|apply xa;simp+decide only[go_sem,c1,ai,hn,bG,hx,c3,a7,cA,rD,ej,aS];rfl;kernel_rfl)
       refine a0y (ord.length-(i+1)) (by omega) ⟨_,_,?_,i+1,rfl,ai,by rw[az];exact jn,rfl,rfl⟩;rw[az]
       (simp+decide only[go_sem,a01,a00,a3b,a32,n3,p3,e1,e2]<;>rfl)<;>rfl
    ·obtain rfl:i=ord.length:=by omega
     have c1:¬(ord.length:Int)<ord.length:=by omega
     rw[f6p]at a7 jz⊢;clear iZ qf;generalize ord.foldl (Pc.stepG nAlg c.nodes g) N1=ag at a7 jz⊢;have kH:=a2t ag;have m1:=a06 kH;have m2:=λπ=>a05 π kH;have kc:=λ(d:Bool) (R:a03) (n:Nat) (hn:n<c.nodes.length)=>b57 (d:=d) R c hc net pin g n3 h2 ag a7 n hn;unfold b00 at kc
     (repeat first|simp only[ww]|apply xa;simp+decide only[go_sem,c1];rfl;kernel_rfl)
     generalize hNR:ag.map u8R=NR at kc kH m1 m2;refine a3i kp120_6 (λn F H=>∃i,n=c.outs.length-i∧i<=c.outs.length∧F=[(0,.ptr 0 0 0),(4,.ptr 2 0 0),(5,sl r1 ((kinds c.nodes 14).map a13)),(16,.ptr 3 0 0),(143,sl c.oc (c.outs.map a13)),(144,.int .i64 c.outs.length),(145,.int .i64 i)]∧H=[some (.row 7 [cz c [.slice 1 0 c.nodes.length (some c.nodes.length),net,pin]]),some (.row 1 NR),some (.row 2 [[.nilslice,.nilslice]]),some (.row 2 [[grV 4 ((a17 (c.outs.take i) ag).map u8R),.nilslice]])]++grH 1 ((a17 (c.outs.take i) ag).map u8R)) c.outs.length ?_ ?_
     ·refine⟨_,_,?_,0,rfl,f2i _,rfl,rfl⟩;rw[f2j,show a17 [] ag=[]from rfl]
      (simp+decide only[go_sem,a01,a00,a0r,a0s,f1g,m1,m2,n3,p3,e1,e2]<;>rfl)<;>rfl
     ·rintro n F H ⟨i,rfl,vW,rfl,rfl⟩
      have ib:((a17 (c.outs.take i) ag).map u8R).length=i:=by simp[a17];omega
      have gn:=a2t (a17 (c.outs.take i) ag);by_cases ai:i<c.outs.length
      ·obtain⟨o,qz⟩:∃o,c.outs[i]?=some o:=⟨_,z9e ai⟩
       have om:=hc.outs o (c11 qz);obtain⟨v,ml⟩:∃v,ag[o]?=some v:=⟨_,z9e (by omega)⟩
       have qg:NR[o]?=some [AV.int .u8 v]:=by rw[<-hNR,f1l,ml];rfl
       have qh:NR.length=c.nodes.length:=by rw[<-hNR,c10];exact a7
       have c1:(i:Int)<c.outs.length:=by omega
       have aS:=wI1 (n:=i) (by omega);have eU:(a17 (c.outs.take (i+1)) ag).map u8R=(a17 (c.outs.take i) ag).map u8R++[[.int .u8 v]]:=by unfold a17;rw[a1b qz,f2t,f2t];simp only[f1a,f1g,List.getD,ml,f4v];rfl
       generalize(a17 (c.outs.take i) ag).map u8R=T at ib gn eU;have eW:=a06 gn;have fM:=λπ=>a05 π gn;cases T with
       |nil=>
        (repeat first|simp only[ww]|apply xa;simp+decide only[go_sem,c1,ai,qz,om,qg,qh,aS,a0r,a0s];rfl;kernel_rfl)
        refine a0y (c.outs.length-(i+1)) (by omega) ⟨_,_,?_,i+1,rfl,ai,rfl,rfl⟩;rw[eU]
        (simp+decide only[go_sem,a01,a00,a09,a0a,f1e,f1h,m1,m2,n3,p3,e1,e2]<;>rfl)<;>rfl
       |cons a r=>
        simp only[f1c]at ib;have aD:r.length+1+1<=1000000000:=by omega
        simp only[f4k]at eW;simp only[f1a,List.cons.injEq]at fM
        (repeat first|simp only[ww]|apply xa;simp+decide only[go_sem,c1,ai,qz,om,qg,qh,aS,a09,a0a,aD];rfl;kernel_rfl)
        refine a0y (c.outs.length-(i+1)) (by omega) ⟨_,_,?_,i+1,rfl,ai,rfl,rfl⟩;rw[eU]
        (simp+decide only[go_sem,a01,a00,a09,a0a,f2o,eW,fM,m1,m2,n3,p3,e1,e2]<;>rfl)<;>rfl
      ·obtain rfl:i=c.outs.length:=by omega
       have c1:¬(c.outs.length:Int)<c.outs.length:=by omega
       rw[f6p]at ib gn⊢;have di:0<c.outs.length:=List.length_pos_iff.2 hO;have sH:a29 (a17 c.outs ag) = .islice ((a17 c.outs ag).map u8R) (some c.outs.length):=by
        have fj:(a17 c.outs ag).length=c.outs.length:=by simp[a17]
        cases hoN:a17 c.outs ag with
        |nil=>rw[hoN]at fj;simp at fj;omega
        |cons v q=>rw[hoN]at fj;simp only[f1c]at fj;rw[<-fj];rfl
       unfold a7j;rw[sH];generalize(a17 c.outs ag).map u8R=T at ib gn;cases T with
       |nil=>simp at ib;omega
       |cons a r=>
        have io:r.length+1=c.outs.length:=by simpa using ib
        have eW:=a06 gn;have fM:=λπ=>a05 π gn;have nX:=λ(m:Nat) (q:AV->Option AV)=>a0z m q gn;simp only[f4k]at eW;simp only[f1a,List.cons.injEq]at fM;have qL:(a62 c.nodes g ag (kinds c.nodes 14)).length=(kinds c.nodes 14).length:=by simp[a62]
        have tZ:∀(i q:Nat),(kinds c.nodes 14)[i]?=some q->(a62 c.nodes g ag (kinds c.nodes 14))[i]?=some (if(a1o nAlg c.nodes g ag q).getD 0 0=3 then 2 else(a1o nAlg c.nodes g ag q).getD 0 0):=by intro i q hq;unfold a62;rw[f1l,hq];rfl
        generalize sE:a62 c.nodes g ag (kinds c.nodes 14)=XX at qL tZ⊢
        (repeat first|simp only[ww]|apply xa;simp+decide only[go_sem,c1,a09,a0a];rfl;kernel_rfl)
        refine a3i kp120_8 (λn F H=>∃i,n=(kinds c.nodes 14).length-i∧i<=(kinds c.nodes 14).length∧F=[(0,.ptr 0 0 0),(4,.ptr 2 0 0),(16,.ptr 3 0 0),(162,sl r1 ((kinds c.nodes 14).map a13)),(163,.int .i64 (kinds c.nodes 14).length),(164,.int .i64 i)]∧H=[some (.row 7 [cz c [.slice 1 0 c.nodes.length (some c.nodes.length),net,pin]]),some (.row 1 NR),some (.row 2 [[.nilslice,.nilslice]]),some (.row 2 [[.slice 4 0 (r.length+1) none,grV 5 ((XX.take i).map u8R)]]),some (.row 1 (a::r))]++grH 1 ((XX.take i).map u8R)) (kinds c.nodes 14).length ?_ ?_
        ·refine⟨_,_,?_,0,rfl,f2i _,rfl,rfl⟩;rw[f2j]
         (simp+decide only[go_sem,a01,a00,a0r,a0s,f1g,m1,m2,eW,fM,n3,p3,e1,e2]<;>rfl)<;>rfl
        ·rintro n F H ⟨i,rfl,vV,rfl,rfl⟩
         have jd:((XX.take i).map u8R).length=i:=by simp;omega
         have fL:=a2t (XX.take i);by_cases ai:i<(kinds c.nodes 14).length
         ·obtain⟨q,hq⟩:∃q,(kinds c.nodes 14)[i]?=some q:=⟨_,z9e ai⟩
          obtain⟨oe,rv⟩:=a7d hq;obtain⟨x,hx⟩:∃x,c.nodes[q]?=some x:=⟨_,z9e oe⟩
          have fe:x.kind=14:=by rw[<-a0x hx];exact rv
          have fD:x.ins.length=1:=by have h1:=hc.lo x (c11 hx);have h2:=hc.hi x (c11 hx);rw[fe]at h1 h2;have e1:a27 14=1:=rfl;have e2:a23 14=1:=rfl;omega
          have mM:(a1o nAlg c.nodes g ag q).length=1:=by rw[a9i,a1s hx];exact fD
          have nQ:=tZ i q hq;have mh:=λ(d:Bool) (R:a03)=>kc d R q oe;generalize a1o nAlg c.nodes g ag q=RR at mM nQ mh;obtain⟨v,eV⟩:∃v,RR=[v]:=by
           cases RR with
           |nil=>simp at mM
           |cons v l=>cases l with
            |nil=>exact⟨v,rfl⟩
            |cons=>simp at mM
          subst eV;simp only[List.getD_cons_zero]at nQ;have je:(XX.take (i+1)).map u8R=(XX.take i).map u8R++[[.int .u8 (if v=3 then 2 else v:Nat)]]:=by rw[a1b nQ,f2t];rfl
          have c1:(i:Int)<(kinds c.nodes 14).length:=by omega
          have aS:=wI1 (n:=i) (by omega);have i9:Ax.rowAt ([v].map u8R) 0=some [AV.int .u8 v]:=rfl;have mh:∀(d:Bool) (R:a03),_=some (sl none ([v].map u8R),_,_):=mh;generalize(XX.take i).map u8R=X at jd fL je;generalize [v].map u8R=RV at i9 mh;have nZ:=a06 fL;have nY:=λπ=>a05 π fL;by_cases tf:v=3
          ·rw[f2w tf]at je;have c3:(v:Int)=3:=by omega
           cases X with
           |nil=>
            (repeat first|simp only[ww]|apply xa;simp+decide only[go_sem,c1,ai,hq,mh,i9,c3,aS,a0r,a0s];rfl;kernel_rfl)
            refine a0y ((kinds c.nodes 14).length-(i+1)) (by omega) ⟨_,_,?_,i+1,rfl,ai,rfl,rfl⟩;rw[je]
            (simp+decide only[go_sem,a01,a00,a09,a0a,f1e,f1h,m1,m2,eW,fM,n3,p3,e1,e2]<;>rfl)<;>rfl
           |cons a2 r2=>
            simp only[f1c]at jd;have aD:r2.length+1+1<=1000000000:=by omega
            simp only[f4k]at nZ;simp only[f1a,List.cons.injEq]at nY
            (repeat first|simp only[ww]|apply xa;simp+decide only[go_sem,c1,ai,hq,mh,i9,c3,aS,a09,a0a,aD];rfl;kernel_rfl)
            refine a0y ((kinds c.nodes 14).length-(i+1)) (by omega) ⟨_,_,?_,i+1,rfl,ai,rfl,rfl⟩;rw[je]
            (simp+decide only[go_sem,a01,a00,a09,a0a,f2o,nZ,nY,m1,m2,eW,fM,n3,p3,e1,e2]<;>rfl)<;>rfl
          ·rw[f2m tf]at je;have c3:¬(v:Int)=3:=by omega
           cases X with
           |nil=>
            (repeat first|simp only[ww]|apply xa;simp+decide only[go_sem,c1,ai,hq,mh,i9,c3,aS,a0r,a0s];rfl;kernel_rfl)
            refine a0y ((kinds c.nodes 14).length-(i+1)) (by omega) ⟨_,_,?_,i+1,rfl,ai,rfl,rfl⟩;rw[je]
            (simp+decide only[go_sem,a01,a00,a09,a0a,f1e,f1h,m1,m2,eW,fM,n3,p3,e1,e2]<;>rfl)<;>rfl
           |cons a2 r2=>
            simp only[f1c]at jd;have aD:r2.length+1+1<=1000000000:=by omega
            simp only[f4k]at nZ;simp only[f1a,List.cons.injEq]at nY
            (repeat first|simp only[ww]|apply xa;simp+decide only[go_sem,c1,ai,hq,mh,i9,c3,aS,a09,a0a,aD];rfl;kernel_rfl)
            refine a0y ((kinds c.nodes 14).length-(i+1)) (by omega) ⟨_,_,?_,i+1,rfl,ai,rfl,rfl⟩;rw[je]
            (simp+decide only[go_sem,a01,a00,a09,a0a,f2o,nZ,nY,m1,m2,eW,fM,n3,p3,e1,e2]<;>rfl)<;>rfl
         ·obtain rfl:i=(kinds c.nodes 14).length:=by omega
          have c1:¬((kinds c.nodes 14).length:Int)<(kinds c.nodes 14).length:=by omega
          have kX:=λ(d:Bool) (x0 x1 x2 x3:Option AObj) (R:a03)=>a9q (d:=d) (H:=x0::x1::x2::x3::some (.row 1 (a::r))::R) (b:=4) (n:=r.length+1) gn rfl;rw[f1k (by omega)]at jd fL⊢;cases XX with
          |nil=>
           have g8:=λ(d:Bool) (H:a03)=>b5p (d:=d) H
           (repeat first|simp only[ww]|apply xa;simp+decide only[go_sem,c1,kX,g8,f1g,a0r,a0s];rfl;kernel_rfl)
           refine a44 (vs:=[.agg [.slice 4 0 (r.length+1) (some (r.length+1)),.nilslice]]) (r:=(_,_)) (by simp+decide only[go_sem]) ?_ rfl;show a22 false 1 (.agg [.slice 4 0 (r.length+1) (some (r.length+1)),.nilslice]) _=_;have dF:List.take (r.length+1) (a::r)=a::r:=f6p (l:=a::r);rw[<-io];unfold a29;simp+decide only[go_sem,nX,m2,dF,e1,e2]<;>rfl
          |cons a2 r2=>
           have kB:=λ(d:Bool) (x0 x1 x2 x3 x4:Option AObj)=>a9q (d:=d) (H:=[x0,x1,x2,x3,x4,some (.row 1 ((a2::r2).map u8R))]) (b:=5) (n:=r2.length+1) fL rfl;have ql:=λ(m:Nat) (q:AV->Option AV)=>a0z m q fL;have d5:(r2.map u8R).length=r2.length:=c10 ..;simp only[f1a,u8R]at kB ql fL⊢
           (repeat first|simp only[ww]|apply xa;simp+decide only[go_sem,c1,kX,kB,a09,a0a,d5];rfl;kernel_rfl)
           refine a44 (vs:=[.agg [.slice 4 0 (r.length+1) (some (r.length+1)),.slice 5 0 (r2.length+1) (some (r2.length+1))]]) (r:=(_,_)) (by simp+decide only[go_sem]) ?_ rfl;show a22 false 1 (.agg [.slice 4 0 (r.length+1) (some (r.length+1)),.slice 5 0 (r2.length+1) (some (r2.length+1))]) _=_;have dF:List.take (r.length+1) (a::r)=a::r:=f6p (l:=a::r);have mY:List.take (r2.length+1) ([AV.int .u8 a2]::r2.map u8R)=[AV.int .u8 a2]::r2.map u8R:=f1k (by simp);rw[<-io];unfold a29;simp only[f1a,u8R];simp+decide only[go_sem,nX,ql,m2,dF,mY,e1,e2]<;>rfl
def a9y(c:Cir)(ord:List Nat)(f:Flt)(p:Pat):Hk Nat:=hkF f (a9z nAlg (a2s c ord p) f)
theorem b9l(c:Cir)(ord:List Nat)(p:Pat)(hp:PatOk c.nodes p):∀v∈a2s c ord p,v<=3:=b3d d9g _ _ _ _ _ hp.inv hp.stv
theorem d2u(c:Cir)(ord:List Nat)(f:Flt)(hf:FltOk c.nodes f)(p:Pat)(hp:PatOk c.nodes p):d51 (a9y c ord f p):=by
 refine e6t ?_;have hv:=hf.value;unfold a9z;split
 ·show f.value<=3;omega
 split
 ·exact b0z (b9l c ord p hp) _
 split<;>exact d9c _ _
theorem e2q(c:Cir)(hc:c.wf)(hO:c.outs≠[])(p:Pat)(hp:PatOk c.nodes p)(f:Flt)(hf:FltOk c.nodes f)(ord:List Nat)(aH:OrdOf c ord) :
 sM 124 [.agg (ce c),.agg (fb f.model f.node f.pin f.value f.other),.agg [sl p.ic (p.ins.map u8R),sl p.sc (p.sts.map u8R)]] []=some (.tuple [a7j (a17 c.outs (a2s c ord p)) (a1x c.nodes (a2s c ord p)),a7j (a17 c.outs (a9u c ord (a9y c ord f p) p)) (a62 c.nodes (a9y c ord f p) (a9u c ord (a9y c ord f p) p) (kinds c.nodes 14)),.junk,.int .i64 0],[]):=by
 have aR:=λ(d:Bool) (H:a03)=>b5k (d:=d) H c hc f hf;have eP:=λ(d:Bool) (H:a03)=>a0v (E:=L.env) (ah:=d) (call:=sM) (H:=H) (g:=23) (fs:=[]) (cs:=[]) (ar:=[.agg c.enc,.agg p.enc]) (by kernel_rfl) (by kernel_rfl) rfl (by simp only[f1e,f1b,a04,a0n,Cir.enc,Pat.enc,go_sem]) (c3h c hc hO p hp ord aH) (by simp only[a58,a04,a3c,a0t,f1b];simp only[go_sem]);obtain⟨net,pin,hN,hP,gz⟩:=d3c c f hf (a2s c ord p) (c1g _ _ _ _ _) (b9l c ord p hp);have pI:=d2i c hc hO p hp ord aH net pin (a9y c ord f p) hN hP (d2u c ord f hf p hp);have n3:=hN.flat;have p3:=hP.flat;have bh:∀v:AV,refs v=[]->FlatR [cz c [v,net,pin]]:=λv hv r hr=>by rw[f2x]at hr;subst hr;simp only[go_sem,hv,n3,p3]
 have ku:=bh .nilslice rfl;have fw:=bh .junk rfl;have rY:∀x0 x1 x2 x3 x4:Option AObj,cl false 161 [.agg (ce c),.agg (fb f.model f.node f.pin f.value f.other),.islice ((a2s c ord p).map u8R) (some c.nodes.length)] [x0,x1,x2,x3,x4]=some (.ptr 5 0 0,[x0,x1,x2,x3,x4,some (.row 7 [cz c [.nilslice,net,pin]])],[]):=λx0 x1 x2 x3 x4=>b8a (by kernel_rfl) (by kernel_rfl) rfl (by simp only[f1e,f1b,go_sem]) gz ku;have fI:∀x0 x1 x2 x3 x4:Option AObj,cl false 120 [.ptr 5 0 0,.agg [sl p.ic (p.ins.map u8R),sl p.sc (p.sts.map u8R)]] [x0,x1,x2,x3,x4,some (.row 7 [cz c [.nilslice,net,pin]])]=some (_,[x0,x1,x2,x3,x4,some (.row 7 [cz c [.junk,net,pin]])],[5]):=λx0 x1 x2 x3 x4=>a3h (b:=5) (by kernel_rfl) (by kernel_rfl) rfl rfl (by simp only[go_sem,n3,p3]) (FlatO.row ku) (by simp only[f1e,f1b,go_sem]) (by simp+decide only[f1e,f1b,f1a,f1g,go_sem]<;>rfl) pI (FlatO.row fw) (a0b _ _ (a3c _ _));have s1:=a11 (a17 c.outs (a2s c ord p));have s2:=a11 (a1x c.nodes (a2s c ord p));have s3:=a11 (a17 c.outs (a9u c ord (a9y c ord f p) p));have s4:=a11 (a62 c.nodes (a9y c ord f p) (a9u c ord (a9y c ord f p) p) (kinds c.nodes 14));have q1:=a0w (a17 c.outs (a2s c ord p));have q2:=a0w (a1x c.nodes (a2s c ord p));have q3:=a0w (a17 c.outs (a9u c ord (a9y c ord f p) p));have q4:=a0w (a62 c.nodes (a9y c ord f p) (a9u c ord (a9y c ord f p) p) (kinds c.nodes 14));have m1:¬(f.model:Int)=1:=by have:=hf.model;omega
 unfold a7j at eP fI⊢;generalize a29 (a17 c.outs (a2s c ord p))=A1 at eP s1 q1⊢;generalize a29 (a1x c.nodes (a2s c ord p))=A2 at eP s2 q2⊢;generalize a29 (a17 c.outs (a9u c ord (a9y c ord f p) p))=B1 at fI s3 q3⊢;generalize a29 (a62 c.nodes (a9y c ord f p) (a9u c ord (a9y c ord f p) p) (kinds c.nodes 14))=B2 at fI s4 q4⊢;simp only[Cir.enc,Pat.enc,Flt.enc]at aR eP
 (refine sv Tryz.f124 ?_;simp only[Tryz.f124,gS])
 (repeat first|simp only[ww]|apply xa;simp+decide only[go_sem,aR,eP,rY,fI,m1,s1,s2,s3,s4];rfl;kernel_rfl)
 refine a6p (vs:=[.agg [A1,A2],.agg [B1,B2],.junk,.int .i64 0]) (by simp+decide only[go_sem]<;>rfl) (a5b (by show(refs A1++(refs A2++[]))++((refs B1++(refs B2++[]))++_)=[];rw[q1,q2,q3,q4];rfl))
theorem d3z{d:Bool}(H:a03)(c:Cir)(hc:c.wf)(hO:c.outs≠[])(p:Pat)(hp:PatOk c.nodes p)(f:Flt)(hf:FltOk c.nodes f)(ord:List Nat)(aH:OrdOf c ord) :
 cl d 124 [.agg (ce c),.agg (fb f.model f.node f.pin f.value f.other),.agg [sl p.ic (p.ins.map u8R),sl p.sc (p.sts.map u8R)]] H=some (.tuple [a7j (a17 c.outs (a2s c ord p)) (a1x c.nodes (a2s c ord p)),a7j (a17 c.outs (a9u c ord (a9y c ord f p) p)) (a62 c.nodes (a9y c ord f p) (a9u c ord (a9y c ord f p) p) (kinds c.nodes 14)),.junk,.int .i64 0],H,[]):=
 cf (by simp only[f1e,f1b,go_sem]) (e2q c hc hO p hp f hf ord aH) (by simp only[a58,a04,a0t,a3c,f1b];rfl)
structure FunF(fV:AV)(φ:Nat->Nat):Prop where
 flat:refs fV=[]
 sto:fV.storable=true
 jk:AV.isJunk fV=false
 cl:AV.cells fV=[fV]
 call:∀(d:Bool) (H:a03) (w:Nat),a20 L.env d sM fV [.int .u8 w] H=some (.int .u8 (φ w),H,[])
theorem e2t(n w a:Nat)(q:Int)(fV:AV)(φ:Nat->Nat)(hf:FunF fV φ):sM 157 [.int .i64 n,.int .u8 w,.iptr [.int .i64 a,.int .i64 q],.iptr [fV]] []=some (.int .u8 (if n=a then φ w else w:Nat),[]):=by
 have hc:=hf.call;have az:=hf.sto;by_cases h1:n=a
 ·subst h1;rw[f2w rfl]
  (refine sv Tryz.f157 ?_;simp only[Tryz.f157,gS])
  (repeat first|simp only[ww]|apply xa;simp+decide only[go_sem,hc];rfl;kernel_rfl)
  (apply fqb;simp+decide only[go_sem]<;>rfl)
 ·rw[f2m h1];have h1:=nI h1
  (refine sv Tryz.f157 ?_;simp only[Tryz.f157,gS])
  (repeat first|simp only[ww]|apply xa;simp+decide only[go_sem,h1];rfl;kernel_rfl)
  (apply fqb;simp+decide only[go_sem]<;>rfl)
theorem e2s(n p w a:Nat)(q:Int)(fV:AV)(φ:Nat->Nat)(hf:FunF fV φ):sM 158 [.int .i64 n,.int .i64 p,.int .u8 w,.iptr [.int .i64 a,.int .i64 q],.iptr [fV]] []=some (.int .u8 (if n=a∧(p:Int)=q then φ w else w:Nat),[]):=by
 have hc:=hf.call;by_cases h1:n=a
 ·subst h1;by_cases h2:(p:Int)=q
  ·subst h2;rw[f2w ⟨rfl,rfl⟩]
   (refine sv Tryz.f158 ?_;simp only[Tryz.f158,gS])
   (repeat first|simp only[ww]|apply xa;simp+decide only[go_sem,hc];rfl;kernel_rfl)
   (apply fqb;simp+decide only[go_sem]<;>rfl)
  ·rw[f2m (λh=>h2 h.2)]
   (refine sv Tryz.f158 ?_;simp only[Tryz.f158,gS])
   (repeat first|simp only[ww]|apply xa;simp+decide only[go_sem,h2];rfl;kernel_rfl)
   (apply fqb;simp+decide only[go_sem]<;>rfl)
 ·rw[f2m (λh=>h1 h.1)];have h1:=nI h1
  (refine sv Tryz.f158 ?_;simp only[Tryz.f158,gS])
  (repeat first|simp only[ww]|apply xa;simp+decide only[go_sem,h1];rfl;kernel_rfl)
  (apply fqb;simp+decide only[go_sem]<;>rfl)
def hkS(nd:Nat)(pin:Int)(φ:Nat->Nat):Hk Nat:=⟨λn w=>if pin<0∧n=nd then φ w else w,λn p w=>if 0<=pin∧n=nd∧(p:Int)=pin then φ w else w⟩
theorem e6s{nd:Nat}{pin:Int}{φ:Nat->Nat}(h:∀v,v<=3->φ v<=3):d51 (hkS nd pin φ):=by
 constructor
 ·intro n w hw;unfold hkS;dsimp only;split
  ·exact h w hw
  ·exact hw
 ·intro n p w hw;unfold hkS;dsimp only;split
  ·exact h w hw
  ·exact hw
theorem e2v(c:Cir)(nd:Nat)(pin:Int)(hq:pin<0)(fV:AV)(φ:Nat->Nat)(hf:FunF fV φ):∃net pn,NetN net (hkS nd pin φ).net∧PinN pn (hkS nd pin φ).pin∧
 sM 118 [.agg (ce c),.agg [.int .i64 nd,.int .i64 pin],fV] []=some (.ptr 0 0 0,[some (b00 c .nilslice net pn)]):=by
 have az:=hf.sto;have bh:=hf.flat;have bE:∀π,ren π fV=fV:=λπ=>a0b π _ bh;have eK:=λm t d=>a0i m t d _ bh;have rM:=hf.jk;have cM:=hf.cl;refine⟨.func (.func 157) [] [.iptr [.int .i64 nd,.int .i64 pin],.iptr [fV]],.func (.func 156) [] [],⟨rfl,rfl,rfl,λd H n w=>?_⟩,?_,?_⟩
 ·have h1:=a0v (E:=L.env) (ah:=d) (call:=sM) (H:=H) (g:=157) (fs:=[]) (ar:=[.int .i64 n,.int .u8 w]) (cs:=[.iptr [.int .i64 nd,.int .i64 pin],.iptr [fV]]) (by kernel_rfl) (by kernel_rfl) rfl rfl (e2t n w nd pin fV φ hf) rfl;rw[h1];have:(if n=nd then φ w else w)=(hkS nd pin φ).net n w:=by
   unfold hkS;simp[hq]
  rw[this]
 ·have:(hkS nd pin φ).pin=λ_ _ w=>w:=by
   funext n p w;unfold hkS
   have:¬0<=pin:=by omega
   simp[this]
  rw[this];exact d65
 ·(refine sv Tryz.f118 ?_;simp only[Tryz.f118,gS])
  (repeat first|simp only[ww]|apply xa;simp+decide only[go_sem,hq,az,rM,cM];rfl;kernel_rfl)
  refine a6p (vs:=[.ptr 3 0 0]) (by simp+decide only[go_sem]) ?_;unfold b00;simp+decide only[go_sem,bh,bE,eK]<;>rfl
theorem e2u(c:Cir)(nd:Nat)(pin:Int)(hq:¬pin<0)(fV:AV)(φ:Nat->Nat)(hf:FunF fV φ):∃net pn,NetN net (hkS nd pin φ).net∧PinN pn (hkS nd pin φ).pin∧
 sM 118 [.agg (ce c),.agg [.int .i64 nd,.int .i64 pin],fV] []=some (.ptr 0 0 0,[some (b00 c .nilslice net pn)]):=by
 have az:=hf.sto;have bh:=hf.flat;have bE:∀π,ren π fV=fV:=λπ=>a0b π _ bh;have eK:=λm t d=>a0i m t d _ bh;have rM:=hf.jk;have cM:=hf.cl;refine⟨.func (.func 155) [] [],.func (.func 158) [] [.iptr [.int .i64 nd,.int .i64 pin],.iptr [fV]],?_,⟨rfl,rfl,rfl,λd H n p w=>?_⟩,?_⟩
 ·have:(hkS nd pin φ).net=λ_ w=>w:=by
   funext n w;unfold hkS
   simp[hq]
  rw[this];exact e5n
 ·have h1:=a0v (E:=L.env) (ah:=d) (call:=sM) (H:=H) (g:=158) (fs:=[]) (ar:=[.int .i64 n,.int .i64 p,.int .u8 w]) (cs:=[.iptr [.int .i64 nd,.int .i64 pin],.iptr [fV]]) (by kernel_rfl) (by kernel_rfl) rfl rfl (e2s n p w nd pin fV φ hf) rfl;rw[h1];have:(if n=nd∧(p:Int)=pin then φ w else w)=(hkS nd pin φ).pin n p w:=by
   unfold hkS;have:0<=pin:=by omega
   simp[this]
  rw[this]
 ·(refine sv Tryz.f118 ?_;simp only[Tryz.f118,gS])
  (repeat first|simp only[ww]|apply xa;simp+decide only[go_sem,hq,az,rM,cM];rfl;kernel_rfl)
  refine a6p (vs:=[.ptr 3 0 0]) (by simp+decide only[go_sem]) ?_;unfold b00;simp+decide only[go_sem,bh,bE,eK]<;>rfl
/- a slow fault between two patterns -/
section
variable (c:Cir)(ord:List Nat)(nd:Nat)(pin:Int)(val:Nat)
def spN:Nat:=if pin<0 then nd else(a28 c.nodes nd).getD pin.toNat 0
def spK:Nat:=if val=0 then 7 else 5
def spφ(p:Pat)(w:Nat):Nat:=a3p (spK val) [(a2s c ord p).getD (spN c nd pin) 0,w]
def d91(p:Pat):Hk Nat:=hkS nd pin (spφ c ord nd pin val p)
def pdO(p q:Pat):List Nat:=a17 c.outs (a9u c ord (d91 c ord nd pin val p) q)
def pdN(p q:Pat):List Nat:=a62 c.nodes (d91 c ord nd pin val p) (a9u c ord (d91 c ord nd pin val p) q) (kinds c.nodes 14)
end
theorem d0n(c:Cir)(ord:List Nat)(nd:Nat)(pin:Int)(val:Nat)(p:Pat)(hp:PatOk c.nodes p):d51 (d91 c ord nd pin val p):=e6s (λv hv=>by
 unfold spφ;refine b93 _ _ (λw hw=>?_);simp only[f4h,g0k,or_false]at hw;rcases hw with rfl|rfl
 ·exact b0z (b9l c ord p hp) _
 ·exact hv)
theorem d68(w old k:Nat)(hk:k<16):sM 119 [.int .u8 w,.iptr [.func (.func 154) [] [.iptr [.int .u8 k]]],.iptr [.int .u8 old]] []=some (.int .u8 (a3p k [old,w]:Nat),[]):=by
 have pd:=λ(d:Bool) (H:a03)=>a0v (E:=L.env) (ah:=d) (call:=sM) (H:=H) (g:=154) (fs:=[]) (ar:=[.int .u8 old,.int .u8 w]) (cs:=[.iptr [.int .u8 k]]) (by kernel_rfl) (by kernel_rfl) rfl rfl (d95 old w k hk) rfl;generalize a3p k [old,w]=v at pd
 (refine sv Tryz.f119 ?_;simp only[Tryz.f119,gS])
 (repeat first|simp only[ww]|apply xa;simp+decide only[go_sem,pd];rfl;kernel_rfl)
 (apply fqb;simp+decide only[go_sem]<;>rfl)
theorem prF(old k:Nat)(hk:k<16):FunF (.func (.func 119) [] [.iptr [.func (.func 154) [] [.iptr [.int .u8 k]]],.iptr [.int .u8 old]]) (λw=>a3p k [old,w]):=⟨rfl,rfl,rfl,rfl,λd H w=>cf rfl (d68 w old k hk) rfl⟩
theorem c8s(c:Cir)(h:c.wf)(nd:Nat)(pin:Int)(val:Nat)(hf:FltOk c.nodes ⟨0,nd,pin,val,0⟩):sM 21 [.agg c.enc,.agg (fb 1 nd pin val 0)] []=some (.int .i64 0,[]):=by
 have hv:=λH=>b0f (d:=false) H c h;have hl:=λH=>b7y (d:=false) H c h nd pin hf.node hf.pin.1 hf.pin.2;have cD:=hf.value;have c2:¬(1:Int)<val:=by have:val<=1:=cD;omega
 simp only[Cir.enc]at hv hl⊢
 (refine sv Tryz.f21 ?_;simp only[Tryz.f21,gS])
 (repeat first|simp only[ww]|apply xa;simp+decide only[go_sem,hv,hl,c2];rfl;kernel_rfl)
 (apply fqb;simp+decide only[go_sem]<;>rfl)
theorem b2q{d:Bool}(H:a03)(c:Cir)(h:c.wf)(nd:Nat)(pin:Int)(val:Nat)(hf:FltOk c.nodes ⟨0,nd,pin,val,0⟩):cl d 21 [.agg c.enc,.agg (fb 1 nd pin val 0)] H=some (.int .i64 0,H,[]):=cf (by simp only[a04,a0n,Cir.enc,go_sem]) (c8s c h nd pin val hf) rfl
theorem e19(c:Cir)(hc:c.wf)(hO:c.outs≠[])(p:Pat)(hp:PatOk c.nodes p)(q:Pat)(hq:PatOk c.nodes q)(nd:Nat)(pin:Int)(val:Nat)(hf:FltOk c.nodes ⟨0,nd,pin,val,0⟩)(ord:List Nat)(aH:OrdOf c ord) :
 sM 64 [.agg (ce c),.agg (fb 1 nd pin val 0),.agg [sl p.ic (p.ins.map u8R),sl p.sc (p.sts.map u8R)],.agg [sl q.ic (q.ins.map u8R),sl q.sc (q.sts.map u8R)]] []=some (.tuple [a7j (a17 c.outs (a2s c ord q)) (a1x c.nodes (a2s c ord q)),a7j (pdO c ord nd pin val p q) (pdN c ord nd pin val p q),.junk,.int .i64 0],[]):=by
 have aR:=λ(d:Bool) (H:a03)=>b2q (d:=d) H c hc nd pin val hf;have eP:=λ(p:Pat) (hp:PatOk c.nodes p) (d:Bool) (H:a03)=>a0v (E:=L.env) (ah:=d) (call:=sM) (H:=H) (g:=23) (fs:=[]) (cs:=[]) (ar:=[.agg c.enc,.agg p.enc]) (by kernel_rfl) (by kernel_rfl) rfl (by simp only[f1e,f1b,a04,a0n,Cir.enc,Pat.enc,go_sem]) (c3h c hc hO p hp ord aH) (by simp only[a58,a04,a3c,a0t,f1b];simp only[go_sem]);have dX:=eP p hp;have ej:=eP q hq;simp only[Cir.enc,Pat.enc]at aR dX ej;unfold a7j at dX ej⊢;have a1:=a11 (a17 c.outs (a2s c ord p));have a2:=a11 (a1x c.nodes (a2s c ord p));have b1:=a0w (a17 c.outs (a2s c ord p));have b2:=a0w (a1x c.nodes (a2s c ord p));have a3:=a11 (a17 c.outs (a2s c ord q));have a4:=a11 (a1x c.nodes (a2s c ord q));have b3:=a0w (a17 c.outs (a2s c ord q));have b4:=a0w (a1x c.nodes (a2s c ord q));generalize a29 (a17 c.outs (a2s c ord p))=P1 at dX a1 b1;generalize a29 (a1x c.nodes (a2s c ord p))=P2 at dX a2 b2;generalize a29 (a17 c.outs (a2s c ord q))=G1 at ej a3 b3⊢;generalize a29 (a1x c.nodes (a2s c ord q))=G2 at ej a4 b4⊢;have f1:=λm t d=>a0i m t d _ b1;have f2:=λm t d=>a0i m t d _ b2;have f3:=λm t d=>a0i m t d _ b3;have f4:=λm t d=>a0i m t d _ b4;have bn:nd<c.nodes.length:=hf.node;obtain⟨x,hx⟩:∃x,c.nodes[nd]?=some x:=⟨_,z9e bn⟩
 have pg:=hf.pin;have kQ:=a1s hx;have iq:(a2s c ord p).length=c.nodes.length:=c1g _ _ _ _ _;have bG:spN c nd pin<c.nodes.length:=by
  unfold spN;split
  ·exact bn
  ·rw[kQ];have h2:pin.toNat<x.ins.length:=by
    have h3:=pg.2;have h4:(a28 c.nodes nd).length=x.ins.length:=by rw[kQ]
    have h5:pin<(a28 c.nodes nd).length:=h3;omega
   rw[f2p,z9e h2];exact hc.ins x (c11 hx) _ (g0l h2)
 obtain⟨old,aG⟩:∃old,(a2s c ord p)[spN c nd pin]?=some old:=⟨_,z9e (by omega)⟩
 have cD:val<=1:=hf.value;have mr:spK val<16:=by unfold spK;split<;>omega
 have fZ:IntKind.u8.wrap (1-(val:Int))=((1-val:Nat):Int):=by
  have:val=0∨val=1:=by omega
  rcases this with rfl|rfl<;>rfl
 have bS:=λ(d:Bool) (H:a03)=>a0v (E:=L.env) (ah:=d) (call:=sM) (H:=H) (g:=117) (fs:=[]) (ar:=[.int .u8 (1-val:Nat)]) (cs:=[]) (by kernel_rfl) (by kernel_rfl) rfl rfl (b48 (1-val) (spK val) (by unfold spK;rcases(show val=0∨val=1 by omega)with rfl|rfl<;>rfl)) rfl;have hF:=prF old (spK val) mr;have tp:(pin<0∧spN c nd pin=nd)∨∃pn:Nat,pin=pn∧x.ins[pn]?=some (spN c nd pin):=by
  by_cases h:pin<0
  ·exact .inl ⟨h,by unfold spN;rw[f2w h]⟩
  ·refine .inr ⟨pin.toNat,by omega,?_⟩;have h3:pin<(a28 c.nodes nd).length:=pg.2;rw[kQ]at h3;have h2:pin.toNat<x.ins.length:=by omega
   unfold spN;rw[f2m h,kQ,f2p,z9e h2];rfl
 have hφ:spφ c ord nd pin val p=λw=>a3p (spK val) [old,w]:=by funext w;unfold spφ;rw[f2p,aG];rfl
 have bf:=d0n c ord nd pin val p hp;unfold pdO pdN;unfold d91 at bf⊢;rw[hφ]at bf⊢;obtain⟨net,oM,hN,hP,gz⟩:∃net pn,NetN net (hkS nd pin (λw=>a3p (spK val) [old,w])).net∧PinN pn (hkS nd pin (λw=>a3p (spK val) [old,w])).pin∧sM 118 [.agg (ce c),.agg [.int .i64 nd,.int .i64 pin],.func (.func 119) [] [.iptr [.func (.func 154) [] [.iptr [.int .u8 (spK val)]]],.iptr [.int .u8 old]]] []=some (.ptr 0 0 0,[some (b00 c .nilslice net pn)]):=by
  by_cases rx:pin<0
  ·exact e2v c nd pin rx _ _ hF
  ·exact e2u c nd pin rx _ _ hF
 have pI:=d2i c hc hO q hq ord aH net oM _ hN hP bf;generalize hkS nd pin (λw=>a3p (spK val) [old,w])=hk at hN hP pI bf⊢;have n3:=hN.flat;have p3:=hP.flat;have bh:∀v:AV,refs v=[]->FlatR [cz c [v,net,oM]]:=λv hv r hr=>by rw[f2x]at hr;subst hr;simp only[go_sem,hv,n3,p3]
 have ku:=bh .nilslice rfl;have fw:=bh .junk rfl;unfold b00 at gz pI;have bO:∀x0 x1 x2 x3 x4 x5:Option AObj,cl false 118 [.agg (ce c),.agg [.int .i64 nd,.int .i64 pin],.func (.func 119) [] [.iptr [.func (.func 154) [] [.iptr [.int .u8 (spK val)]]],.iptr [.int .u8 old]]] [x0,x1,x2,x3,x4,x5]=some (.ptr 6 0 0,[x0,x1,x2,x3,x4,x5,some (.row 7 [cz c [.nilslice,net,oM]])],[]):=λx0 x1 x2 x3 x4 x5=>b8a (by kernel_rfl) (by kernel_rfl) rfl (by simp only[f1e,f1b,go_sem]) gz ku;have fI:∀x0 x1 x2 x3 x4 x5:Option AObj,cl false 120 [.ptr 6 0 0,.agg [sl q.ic (q.ins.map u8R),sl q.sc (q.sts.map u8R)]] [x0,x1,x2,x3,x4,x5,some (.row 7 [cz c [.nilslice,net,oM]])]=some (_,[x0,x1,x2,x3,x4,x5,some (.row 7 [cz c [.junk,net,oM]])],[6]):=λx0 x1 x2 x3 x4 x5=>a3h (b:=6) (by kernel_rfl) (by kernel_rfl) rfl rfl (by simp only[go_sem,n3,p3]) (FlatO.row ku) (by simp only[f1e,f1b,go_sem]) (by simp+decide only[f1e,f1b,f1a,f1g,go_sem]<;>rfl) pI (FlatO.row fw) (a0b _ _ (a3c _ _));have s3:=a11 (a17 c.outs (a9u c ord hk q));have s4:=a11 (a62 c.nodes hk (a9u c ord hk q) (kinds c.nodes 14));have q3:=a0w (a17 c.outs (a9u c ord hk q));have q4:=a0w (a62 c.nodes hk (a9u c ord hk q) (kinds c.nodes 14));have m1:¬(7:Int)=0:=by omega
 have m2:¬(1:Int)=0:=by omega
 unfold a7j at fI;generalize a29 (a17 c.outs (a9u c ord hk q))=B1 at fI s3 q3⊢;generalize a29 (a62 c.nodes hk (a9u c ord hk q) (kinds c.nodes 14))=B2 at fI s4 q4⊢;clear hφ hF gz;generalize spK val=k at bS mr bO;generalize dZ:spN c nd pin=n' at bG aG tp;refine svY Tryz.f64 6 9 ?_;simp only[Tryz.f64,gS];rcases tp with ⟨rx,rfl⟩|⟨pn,rfl,lj⟩
 ·have c0:¬(0:Int)<=pin:=by omega
  refine a7k ?_
  (repeat first|simp only[ww]|apply xa;simp+decide only[go_sem,aR,dX,ej,a1,a2,a3,a4,c0,aG,bG,iq,fZ,bS];rfl;kernel_rfl)
  try rw[a8a]
  try simp only[c0k,f1h,f2u]
  repeat rw[a1z (by simp+decide only[go_sem,a6r,a1n,b1,b2,b3,b4,f8s,f9h])]
  simp+decide only[go_sem,f1,f2,f3,f4,f3c,f2j,f6x];refine a7k ?_
  (repeat first|simp only[ww]|apply xa;simp+decide only[go_sem,aR,dX,ej,a1,a2,a3,a4,c0,aG,bG,iq,fZ,bS];rfl;kernel_rfl)
  try rw[a8a]
  try simp only[c0k,f1h,f2u]
  repeat rw[a1z (by simp+decide only[go_sem,a6r,a1n,b1,b2,b3,b4,f8s,f9h])]
  simp+decide only[go_sem,f1,f2,f3,f4,f3c,f2j,f6x];refine a7k ?_
  (repeat first|simp only[ww]|apply xa;simp+decide only[go_sem,aR,dX,ej,a1,a2,a3,a4,c0,aG,bG,iq,fZ,bS];rfl;kernel_rfl)
  try rw[a8a]
  try simp only[c0k,f1h,f2u]
  repeat rw[a1z (by simp+decide only[go_sem,a6r,a1n,b1,b2,b3,b4,f8s,f9h])]
  simp+decide only[go_sem,f1,f2,f3,f4,f3c,f2j,f6x];refine a7k ?_
  (repeat first|simp only[ww]|apply xa;simp+decide only[go_sem,aR,dX,ej,a1,a2,a3,a4,c0,aG,bG,iq,fZ,bS];rfl;kernel_rfl)
  try rw[a8a]
  try simp only[c0k,f1h,f2u]
  repeat rw[a1z (by simp+decide only[go_sem,a6r,a1n,b1,b2,b3,b4,f8s,f9h])]
  simp+decide only[go_sem,f1,f2,f3,f4,f3c,f2j,f6x];refine a7k ?_
  (repeat first|simp only[ww]|apply xa;simp+decide only[go_sem,aR,dX,ej,a1,a2,a3,a4,c0,aG,bG,iq,fZ,bS];rfl;kernel_rfl)
  try rw[a8a]
  try simp only[c0k,f1h,f2u]
  repeat rw[a1z (by simp+decide only[go_sem,a6r,a1n,b1,b2,b3,b4,f8s,f9h])]
  simp+decide only[go_sem,f1,f2,f3,f4,f3c,f2j,f6x];refine a7k ?_
  (repeat first|simp only[ww]|apply xa;simp+decide only[go_sem,aR,dX,ej,a1,a2,a3,a4,c0,aG,bG,iq,fZ,bS];rfl;kernel_rfl)
  try rw[a8a]
  try simp only[c0k,f1h,f2u]
  repeat rw[a1z (by simp+decide only[go_sem,a6r,a1n,b1,b2,b3,b4,f8s,f9h])]
  simp+decide only[go_sem,f1,f2,f3,f4,f3c,f2j,f6x];refine a7k ?_
  (repeat first|simp only[ww]|apply xa;simp+decide only[go_sem,aR,dX,ej,a1,a2,a3,a4,c0,aG,bG,iq,fZ,bS];rfl;kernel_rfl)
  try rw[a8a]
  try simp only[c0k,f1h,f2u]
  repeat rw[a1z (by simp+decide only[go_sem,a6r,a1n,b1,b2,b3,b4,f8s,f9h])]
  simp+decide only[go_sem,f1,f2,f3,f4,f3c,f2j,f6x];refine a7k ?_
  (repeat first|simp only[ww]|apply xa;simp+decide only[go_sem,aR,dX,ej,a1,a2,a3,a4,c0,aG,bG,iq,fZ,bS];rfl;kernel_rfl)
  try rw[a8a]
  try simp only[c0k,f1h,f2u]
  repeat rw[a1z (by simp+decide only[go_sem,a6r,a1n,b1,b2,b3,b4,f8s,f9h])]
  simp+decide only[go_sem,f1,f2,f3,f4,f3c,f2j,f6x];refine d54 ?_
  (repeat first|simp only[ww]|apply xa;simp+decide only[go_sem,bO,fI,m1,m2,s3,s4,a3,a4];rfl;kernel_rfl)
  refine a6p (vs:=[.agg [G1,G2],.agg [B1,B2],.junk,.int .i64 0]) (by simp+decide only[go_sem]<;>rfl) (a5b (by show(refs G1++(refs G2++[]))++((refs B1++(refs B2++[]))++_)=[];rw[b3,b4,q3,q4];rfl))
 ·have bU:=(f1i.1 lj).1;have c0:(0:Int)<=pn:=by omega
  refine a7k ?_
  (repeat first|simp only[ww]|apply xa;simp+decide only[go_sem,aR,dX,ej,a1,a2,a3,a4,c0,aG,bG,iq,fZ,bS,hx,bn,lj,bU];rfl;kernel_rfl)
  try rw[a8a]
  try simp only[c0k,f1h,f2u]
  repeat rw[a1z (by simp+decide only[go_sem,a6r,a1n,b1,b2,b3,b4,f8s,f9h])]
  simp+decide only[go_sem,f1,f2,f3,f4,f3c,f2j,f6x];refine a7k ?_
  (repeat first|simp only[ww]|apply xa;simp+decide only[go_sem,aR,dX,ej,a1,a2,a3,a4,c0,aG,bG,iq,fZ,bS,hx,bn,lj,bU];rfl;kernel_rfl)
  try rw[a8a]
  try simp only[c0k,f1h,f2u]
  repeat rw[a1z (by simp+decide only[go_sem,a6r,a1n,b1,b2,b3,b4,f8s,f9h])]
  simp+decide only[go_sem,f1,f2,f3,f4,f3c,f2j,f6x];refine a7k ?_
  (repeat first|simp only[ww]|apply xa;simp+decide only[go_sem,aR,dX,ej,a1,a2,a3,a4,c0,aG,bG,iq,fZ,bS,hx,bn,lj,bU];rfl;kernel_rfl)
  try rw[a8a]
  try simp only[c0k,f1h,f2u]
  repeat rw[a1z (by simp+decide only[go_sem,a6r,a1n,b1,b2,b3,b4,f8s,f9h])]
  simp+decide only[go_sem,f1,f2,f3,f4,f3c,f2j,f6x];refine a7k ?_
  (repeat first|simp only[ww]|apply xa;simp+decide only[go_sem,aR,dX,ej,a1,a2,a3,a4,c0,aG,bG,iq,fZ,bS,hx,bn,lj,bU];rfl;kernel_rfl)
  try rw[a8a]
  try simp only[c0k,f1h,f2u]
  repeat rw[a1z (by simp+decide only[go_sem,a6r,a1n,b1,b2,b3,b4,f8s,f9h])]
  simp+decide only[go_sem,f1,f2,f3,f4,f3c,f2j,f6x];refine a7k ?_
  (repeat first|simp only[ww]|apply xa;simp+decide only[go_sem,aR,dX,ej,a1,a2,a3,a4,c0,aG,bG,iq,fZ,bS,hx,bn,lj,bU];rfl;kernel_rfl)
  try rw[a8a]
  try simp only[c0k,f1h,f2u]
  repeat rw[a1z (by simp+decide only[go_sem,a6r,a1n,b1,b2,b3,b4,f8s,f9h])]
  simp+decide only[go_sem,f1,f2,f3,f4,f3c,f2j,f6x];refine a7k ?_
  (repeat first|simp only[ww]|apply xa;simp+decide only[go_sem,aR,dX,ej,a1,a2,a3,a4,c0,aG,bG,iq,fZ,bS,hx,bn,lj,bU];rfl;kernel_rfl)
  try rw[a8a]
  try simp only[c0k,f1h,f2u]
  repeat rw[a1z (by simp+decide only[go_sem,a6r,a1n,b1,b2,b3,b4,f8s,f9h])]
  simp+decide only[go_sem,f1,f2,f3,f4,f3c,f2j,f6x];refine a7k ?_
  (repeat first|simp only[ww]|apply xa;simp+decide only[go_sem,aR,dX,ej,a1,a2,a3,a4,c0,aG,bG,iq,fZ,bS,hx,bn,lj,bU];rfl;kernel_rfl)
  try rw[a8a]
  try simp only[c0k,f1h,f2u]
  repeat rw[a1z (by simp+decide only[go_sem,a6r,a1n,b1,b2,b3,b4,f8s,f9h])]
  simp+decide only[go_sem,f1,f2,f3,f4,f3c,f2j,f6x];refine a7k ?_
  (repeat first|simp only[ww]|apply xa;simp+decide only[go_sem,aR,dX,ej,a1,a2,a3,a4,c0,aG,bG,iq,fZ,bS,hx,bn,lj,bU];rfl;kernel_rfl)
  try rw[a8a]
  try simp only[c0k,f1h,f2u]
  repeat rw[a1z (by simp+decide only[go_sem,a6r,a1n,b1,b2,b3,b4,f8s,f9h])]
  simp+decide only[go_sem,f1,f2,f3,f4,f3c,f2j,f6x];refine d54 ?_
  (repeat first|simp only[ww]|apply xa;simp+decide only[go_sem,bO,fI,m1,m2,s3,s4,a3,a4];rfl;kernel_rfl)
  refine a6p (vs:=[.agg [G1,G2],.agg [B1,B2],.junk,.int .i64 0]) (by simp+decide only[go_sem]<;>rfl) (a5b (by show(refs G1++(refs G2++[]))++((refs B1++(refs B2++[]))++_)=[];rw[b3,b4,q3,q4];rfl))
end Go.UInst
