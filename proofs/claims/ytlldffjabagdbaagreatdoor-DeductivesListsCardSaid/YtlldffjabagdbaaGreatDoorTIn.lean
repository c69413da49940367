/- Part of a proof. No condition. -/
import Derived.Test.YtlldffjabagdbaaGreatDoorTSm
import Derived.Test.YtlldffjabagdbaaGreatDoorAxF
import Derived.Test.YtlldffjabagdbaaGreatDoorPcB
set_option linter.unusedSimpArgs false
set_option linter.unusedVariables false
namespace Go.TInst
open Go.Proofs Go.Ax Go.Pc
set_option maxRecDepth 100000
theorem d9r (c:Cir) (X:AObj) (g n:Nat) (q:Int) (hq:q < 0):sem L.env Mf 118 [.agg [sl c.nc (c.nodes.map Nd.enc),sl c.mc (c.names.map a10),.nilslice,sl c.oc (c.outs.map a0b)],.agg [.int .i64 n,.int .i64 q],.func (.func g) [] [.ptr 0 0 0]] [some X] = some (.ptr 4 0 0,[some X,some (.row 4 [[sl c.nc (c.nodes.map Nd.enc),sl c.mc (c.names.map a10),.nilslice,sl c.oc (c.outs.map a0b)]]),some (.row 2 [[.int .i64 n,.int .i64 q]]),some (.row 1 [[.func (.func g) [] [.ptr 0 0 0]]]),some (.row 7 [[sl c.nc (c.nodes.map Nd.enc),sl c.mc (c.names.map a10),.nilslice,sl c.oc (c.outs.map a0b),.nilslice,.func (.func 149) [] [.ptr 2 0 0,.ptr 3 0 0],.func (.func 116) [] []]])]):=by
 have hs:AV.storable (.func (.func g) [] [.ptr 0 0 0]) = true:=rfl
 (refine sv Tryz.f118 ?_;simp only [Tryz.f118,gS])
 (repeat first|simp only [ww]|(apply xa;simp +decide only [go_sem,hq,hs];rfl;kernel_rfl))
 refine a6t (vs:=[.ptr 4 0 0]) (by simp +decide only [go_sem]) ?_
 simp +decide only [go_sem]<;>rfl
theorem d9q (c:Cir) (X:AObj) (g n:Nat) (q:Int) (hq:¬ q < 0):sem L.env Mf 118 [.agg [sl c.nc (c.nodes.map Nd.enc),sl c.mc (c.names.map a10),.nilslice,sl c.oc (c.outs.map a0b)],.agg [.int .i64 n,.int .i64 q],.func (.func g) [] [.ptr 0 0 0]] [some X] = some (.ptr 4 0 0,[some X,some (.row 4 [[sl c.nc (c.nodes.map Nd.enc),sl c.mc (c.names.map a10),.nilslice,sl c.oc (c.outs.map a0b)]]),some (.row 2 [[.int .i64 n,.int .i64 q]]),some (.row 1 [[.func (.func g) [] [.ptr 0 0 0]]]),some (.row 7 [[sl c.nc (c.nodes.map Nd.enc),sl c.mc (c.names.map a10),.nilslice,sl c.oc (c.outs.map a0b),.nilslice,.func (.func 148) [] [],.func (.func 150) [] [.ptr 2 0 0,.ptr 3 0 0]]])]):=by
 have hs:AV.storable (.func (.func g) [] [.ptr 0 0 0]) = true:=rfl
 (refine sv Tryz.f118 ?_;simp only [Tryz.f118,gS])
 (repeat first|simp only [ww]|(apply xa;simp +decide only [go_sem,hq,hs];rfl;kernel_rfl))
 refine a6t (vs:=[.ptr 4 0 0]) (by simp +decide only [go_sem]) ?_
 simp +decide only [go_sem]<;>rfl
theorem d9p (c:Cir) (X Y:AObj) (g n:Nat) (q:Int) (hq:q < 0):sem L.env Mf 118 [.agg [sl c.nc (c.nodes.map Nd.enc),sl c.mc (c.names.map a10),.nilslice,sl c.oc (c.outs.map a0b)],.agg [.int .i64 n,.int .i64 q],.func (.func g) [] [.ptr 0 0 0,.ptr 1 0 0]] [some X,some Y] = some (.ptr 5 0 0,[some X,some Y,some (.row 4 [[sl c.nc (c.nodes.map Nd.enc),sl c.mc (c.names.map a10),.nilslice,sl c.oc (c.outs.map a0b)]]),some (.row 2 [[.int .i64 n,.int .i64 q]]),some (.row 1 [[.func (.func g) [] [.ptr 0 0 0,.ptr 1 0 0]]]),some (.row 7 [[sl c.nc (c.nodes.map Nd.enc),sl c.mc (c.names.map a10),.nilslice,sl c.oc (c.outs.map a0b),.nilslice,.func (.func 149) [] [.ptr 3 0 0,.ptr 4 0 0],.func (.func 116) [] []]])]):=by
 have hs:AV.storable (.func (.func g) [] [.ptr 0 0 0,.ptr 1 0 0]) = true:=rfl
 (refine sv Tryz.f118 ?_;simp only [Tryz.f118,gS])
 (repeat first|simp only [ww]|(apply xa;simp +decide only [go_sem,hq,hs];rfl;kernel_rfl))
 refine a6t (vs:=[.ptr 5 0 0]) (by simp +decide only [go_sem]) ?_
 simp +decide only [go_sem]<;>rfl
structure NetN (v:AV) (g:Nat → Nat → Nat):Prop where
 flat:refs v = []
 sto:v.storable = true
 nn:b1d v = some v
 call:∀ (d:Bool) (H:a03) (n w:Nat),a0c L.env d (sem L.env Mf) v [.int .i64 n,.int .u8 w] H = some (.int .u8 (g n w),H,[])
structure PinN (v:AV) (g:Nat → Nat → Nat → Nat):Prop where
 flat:refs v = []
 sto:v.storable = true
 nn:b1d v = some v
 call:∀ (d:Bool) (H:a03) (n p w:Nat),a0c L.env d (sem L.env Mf) v [.int .i64 n,.int .i64 p,.int .u8 w] H = some (.int .u8 (g n p w),H,[])
theorem d3q (n:Int) (w:Nat):sem L.env Mf 148 [.int .i64 n,.int .u8 w] [] = some (.int .u8 w,[]):=by
 (refine sv Tryz.f148 ?_;simp only [Tryz.f148,gS])
 (repeat first|simp only [ww]|(apply xa;simp +decide only [go_sem];rfl;kernel_rfl))
 (apply fqb;simp +decide only [go_sem]<;>rfl)
theorem d3t (n p:Int) (w:Nat):sem L.env Mf 116 [.int .i64 n,.int .i64 p,.int .u8 w] [] = some (.int .u8 w,[]):=by
 (refine sv Tryz.f116 ?_;simp only [Tryz.f116,gS])
 (repeat first|simp only [ww]|(apply xa;simp +decide only [go_sem];rfl;kernel_rfl))
 (apply fqb;simp +decide only [go_sem]<;>rfl)
theorem e6v:NetN (.func (.func 148) [] []) (fun _ w=>w):=⟨rfl,rfl,rfl,fun d H n w=>a04 (by kernel_rfl) (by kernel_rfl) rfl rfl (d3q n w) rfl⟩
theorem d7p:PinN (.func (.func 116) [] []) (fun _ _ w=>w):=⟨rfl,rfl,rfl,fun d H n p w=>a04 (by kernel_rfl) (by kernel_rfl) rfl rfl (d3t n p w) rfl⟩
theorem nI {a b:Nat} (h:a ≠ b):¬ (a:Int) = b:=by omega
theorem d1z (n w a b v:Nat):sem L.env Mf 117 [.int .i64 n,.int .u8 w,.iptr [.int .i64 a],.iptr [.int .i64 b],.iptr [.int .u8 v]] [] = some (.int .u8 (if n = a ∨ n = b then v else w:Nat),[]):=by
 by_cases h1:n = a
 ·subst h1
  rw [if_pos (.inl rfl)]
  (refine sv Tryz.f117 ?_;simp only [Tryz.f117,gS])
  (repeat first|simp only [ww]|(apply xa;simp +decide only [go_sem];rfl;kernel_rfl))
  (apply fqb;simp +decide only [go_sem]<;>rfl)
 by_cases h2:n = b
 ·subst h2
  rw [if_pos (.inr rfl)]
  have h1:=nI h1
  (refine sv Tryz.f117 ?_;simp only [Tryz.f117,gS])
  (repeat first|simp only [ww]|(apply xa;simp +decide only [go_sem,h1];rfl;kernel_rfl))
  (apply fqb;simp +decide only [go_sem]<;>rfl)
 ·rw [if_neg (by omega)]
  have h1:=nI h1
  have h2:=nI h2
  (refine sv Tryz.f117 ?_;simp only [Tryz.f117,gS])
  (repeat first|simp only [ww]|(apply xa;simp +decide only [go_sem,h1,h2];rfl;kernel_rfl))
  (apply fqb;simp +decide only [go_sem]<;>rfl)
theorem c7r (w:Nat) (G:List Nat) (b v m:Nat) (hb:G[b]? = some v) (hm:m = G.length):sem L.env Mf 119 [.int .u8 w,.iptr [.islice (G.map u8R) (some m)],.iptr [.int .i64 b]] [] = some (.int .u8 v,[]):=by
 have hlt:=(List.getElem?_eq_some_iff.1 hb).1
 (refine sv Tryz.f119 ?_;simp only [Tryz.f119,gS])
 (repeat first|simp only [ww]|(apply xa;simp +decide only [go_sem,hb,hlt];rfl;kernel_rfl))
 (apply fqb;simp +decide only [go_sem]<;>rfl)
theorem d29 (w:Nat) (f:Flt):sem L.env Mf 120 [.int .u8 w,.iptr [.int .u8 f.model,.int .i64 f.node,.int .i64 f.pin,.int .u8 f.value,.int .i64 f.other]] [] = some (.int .u8 f.value,[]):=by
 (refine sv Tryz.f120 ?_;simp only [Tryz.f120,gS])
 (repeat first|simp only [ww]|(apply xa;simp +decide only [go_sem];rfl;kernel_rfl))
 (apply fqb;simp +decide only [go_sem]<;>rfl)
def c59 (fV:AV) (v:Nat):Prop:=refs fV = [] ∧ ∀ (d:Bool) (H:a03) (w:Nat),a0c L.env d (sem L.env Mf) fV [.int .u8 w] H = some (.int .u8 v,H,[])
theorem d6i (n w a v:Nat) (q:Int) (fV:AV) (hf:c59 fV v) (hst:fV.storable = true):sem L.env Mf 149 [.int .i64 n,.int .u8 w,.iptr [.int .i64 a,.int .i64 q],.iptr [fV]] [] = some (.int .u8 (if n = a then v else w:Nat),[]):=by
 have hc:=hf.2
 by_cases h1:n = a
 ·subst h1
  rw [if_pos rfl]
  (refine sv Tryz.f149 ?_;simp only [Tryz.f149,gS])
  (repeat first|simp only [ww]|(apply xa;simp +decide only [go_sem,hc];rfl;kernel_rfl))
  (apply fqb;simp +decide only [go_sem]<;>rfl)
 ·rw [if_neg h1]
  have h1:=nI h1
  (refine sv Tryz.f149 ?_;simp only [Tryz.f149,gS])
  (repeat first|simp only [ww]|(apply xa;simp +decide only [go_sem,h1];rfl;kernel_rfl))
  (apply fqb;simp +decide only [go_sem]<;>rfl)
theorem e3w (n p w a v:Nat) (q:Int) (fV:AV) (hf:c59 fV v):sem L.env Mf 150 [.int .i64 n,.int .i64 p,.int .u8 w,.iptr [.int .i64 a,.int .i64 q],.iptr [fV]] [] = some (.int .u8 (if n = a ∧ (p:Int) = q then v else w:Nat),[]):=by
 have hc:=hf.2
 by_cases h1:n = a
 ·subst h1
  by_cases h2:(p:Int) = q
  ·subst h2
   rw [if_pos ⟨rfl,rfl⟩]
   (refine sv Tryz.f150 ?_;simp only [Tryz.f150,gS])
   (repeat first|simp only [ww]|(apply xa;simp +decide only [go_sem,hc];rfl;kernel_rfl))
   (apply fqb;simp +decide only [go_sem]<;>rfl)
  ·rw [if_neg (fun h=>h2 h.2)]
   (refine sv Tryz.f150 ?_;simp only [Tryz.f150,gS])
   (repeat first|simp only [ww]|(apply xa;simp +decide only [go_sem,h2];rfl;kernel_rfl))
   (apply fqb;simp +decide only [go_sem]<;>rfl)
 ·rw [if_neg (fun h=>h1 h.1)]
  have h1:=nI h1
  (refine sv Tryz.f150 ?_;simp only [Tryz.f150,gS])
  (repeat first|simp only [ww]|(apply xa;simp +decide only [go_sem,h1];rfl;kernel_rfl))
  (apply fqb;simp +decide only [go_sem]<;>rfl)
theorem e2b (a b k:Nat) (hk:k < 16):sem L.env Mf 147 [.int .u8 a,.int .u8 b,.iptr [.int .u8 k]] [] = some (.int .u8 (a3s k [a,b]:Nat),[]):=by
 have hev:=fun (d:Bool)=>c0k (d:=d) (H:=[some (.row 1 [[.int .u8 a],[.int .u8 b]])]) (b:=0) k hk [a,b] (by simp) (some 2) [[.int .u8 a],[.int .u8 b]] (fun r hr=>by simp at hr;rcases hr with rfl|rfl<;>rfl) rfl rfl (m:=2) rfl
 generalize a3s k [a,b] = w at hev
 (refine sv Tryz.f147 ?_;simp only [Tryz.f147,gS])
 (repeat first|simp only [ww]|(apply xa;simp +decide only [go_sem,hev];rfl;kernel_rfl))
 (apply fqb;simp +decide only [go_sem]<;>rfl)
theorem c2g (v:Nat) (k:Nat) (hk:k = if v = 1 then 7 else 5):sem L.env Mf 115 [.int .u8 v] [] = some (.func (.func 147) [] [.iptr [.int .u8 k]],[]):=by
 subst hk
 by_cases h:v = 1
 ·have h1:(v:Int) = 1:=by omega
  rw [if_pos h]
  (refine sv Tryz.f115 ?_;simp only [Tryz.f115,gS])
  (repeat first|simp only [ww]|(apply xa;simp +decide only [go_sem,h1];rfl;kernel_rfl))
  (apply fqb;simp +decide only [go_sem]<;>rfl)
 ·have h1:¬ (v:Int) = 1:=by omega
  rw [if_neg h]
  (refine sv Tryz.f115 ?_;simp only [Tryz.f115,gS])
  (repeat first|simp only [ww]|(apply xa;simp +decide only [go_sem,h1];rfl;kernel_rfl))
  (apply fqb;simp +decide only [go_sem]<;>rfl)
set_option maxHeartbeats 200000000
theorem e3y (c:Cir) (f:Flt) (G:List Nat) (hq:f.pin < 0):a0c L.env false (sem L.env Mf) (.func (.func 118) [] []) [.agg [sl c.nc (c.nodes.map Nd.enc),sl c.mc (c.names.map a10),.nilslice,sl c.oc (c.outs.map a0b)],.agg [.int .i64 f.node,.int .i64 f.pin],.func (.func 120) [] [.ptr 1 0 0]] [some (.row 4 [[sl c.nc (c.nodes.map Nd.enc),sl c.mc (c.names.map a10),.nilslice,sl c.oc (c.outs.map a0b)]]),some (.row 5 [[.int .u8 f.model,.int .i64 f.node,.int .i64 f.pin,.int .u8 f.value,.int .i64 f.other]]),some (.row 1 [[.islice (G.map u8R) (some c.nodes.length)]]),some (.row 1 [[.int .i64 f.node]]),some (.row 1 [[.int .i64 f.other]])] = some (.ptr 8 0 0,[some (.row 4 [[sl c.nc (c.nodes.map Nd.enc),sl c.mc (c.names.map a10),.nilslice,sl c.oc (c.outs.map a0b)]]),some (.row 5 [[.int .u8 f.model,.int .i64 f.node,.int .i64 f.pin,.int .u8 f.value,.int .i64 f.other]]),some (.row 1 [[.islice (G.map u8R) (some c.nodes.length)]]),some (.row 1 [[.int .i64 f.node]]),some (.row 1 [[.int .i64 f.other]]),some (.row 4 [[sl c.nc (c.nodes.map Nd.enc),sl c.mc (c.names.map a10),.nilslice,sl c.oc (c.outs.map a0b)]]),some (.row 2 [[.int .i64 f.node,.int .i64 f.pin]]),some (.row 1 [[.func (.func 120) [] [.ptr 1 0 0]]]),some (.row 7 [[sl c.nc (c.nodes.map Nd.enc),sl c.mc (c.names.map a10),.nilslice,sl c.oc (c.outs.map a0b),.nilslice,.func (.func 149) [] [.ptr 6 0 0,.ptr 7 0 0],.func (.func 116) [] []]])],[1]):=by
 have h:=d9r c (.row 5 [[.int .u8 f.model,.int .i64 f.node,.int .i64 f.pin,.int .u8 f.value,.int .i64 f.other]]) 120 f.node f.pin hq
 refine a7n (by kernel_rfl) (by kernel_rfl) rfl ((a29 (sem L.env Mf 118) _ [some (.row 4 [[sl c.nc (c.nodes.map Nd.enc),sl c.mc (c.names.map a10),.nilslice,sl c.oc (c.outs.map a0b)]]),some (.row 5 [[.int .u8 f.model,.int .i64 f.node,.int .i64 f.pin,.int .u8 f.value,.int .i64 f.other]]),some (.row 1 [[.islice (G.map u8R) (some c.nodes.length)]]),some (.row 1 [[.int .i64 f.node]]),some (.row 1 [[.int .i64 f.other]])] (σ:=[1]) (by simp +decide only [go_sem]) rfl rfl (by simp +decide only [go_sem]<;>rfl) (by simp +decide only [go_sem]<;>rfl) h).trans ?_)
 simp +decide only [go_sem]<;>rfl
theorem e3x (c:Cir) (f:Flt) (G:List Nat) (hq:¬ f.pin < 0):a0c L.env false (sem L.env Mf) (.func (.func 118) [] []) [.agg [sl c.nc (c.nodes.map Nd.enc),sl c.mc (c.names.map a10),.nilslice,sl c.oc (c.outs.map a0b)],.agg [.int .i64 f.node,.int .i64 f.pin],.func (.func 120) [] [.ptr 1 0 0]] [some (.row 4 [[sl c.nc (c.nodes.map Nd.enc),sl c.mc (c.names.map a10),.nilslice,sl c.oc (c.outs.map a0b)]]),some (.row 5 [[.int .u8 f.model,.int .i64 f.node,.int .i64 f.pin,.int .u8 f.value,.int .i64 f.other]]),some (.row 1 [[.islice (G.map u8R) (some c.nodes.length)]]),some (.row 1 [[.int .i64 f.node]]),some (.row 1 [[.int .i64 f.other]])] = some (.ptr 8 0 0,[some (.row 4 [[sl c.nc (c.nodes.map Nd.enc),sl c.mc (c.names.map a10),.nilslice,sl c.oc (c.outs.map a0b)]]),some (.row 5 [[.int .u8 f.model,.int .i64 f.node,.int .i64 f.pin,.int .u8 f.value,.int .i64 f.other]]),some (.row 1 [[.islice (G.map u8R) (some c.nodes.length)]]),some (.row 1 [[.int .i64 f.node]]),some (.row 1 [[.int .i64 f.other]]),some (.row 4 [[sl c.nc (c.nodes.map Nd.enc),sl c.mc (c.names.map a10),.nilslice,sl c.oc (c.outs.map a0b)]]),some (.row 2 [[.int .i64 f.node,.int .i64 f.pin]]),some (.row 1 [[.func (.func 120) [] [.ptr 1 0 0]]]),some (.row 7 [[sl c.nc (c.nodes.map Nd.enc),sl c.mc (c.names.map a10),.nilslice,sl c.oc (c.outs.map a0b),.nilslice,.func (.func 148) [] [],.func (.func 150) [] [.ptr 6 0 0,.ptr 7 0 0]]])],[1]):=by
 have h:=d9q c (.row 5 [[.int .u8 f.model,.int .i64 f.node,.int .i64 f.pin,.int .u8 f.value,.int .i64 f.other]]) 120 f.node f.pin hq
 refine a7n (by kernel_rfl) (by kernel_rfl) rfl ((a29 (sem L.env Mf 118) _ [some (.row 4 [[sl c.nc (c.nodes.map Nd.enc),sl c.mc (c.names.map a10),.nilslice,sl c.oc (c.outs.map a0b)]]),some (.row 5 [[.int .u8 f.model,.int .i64 f.node,.int .i64 f.pin,.int .u8 f.value,.int .i64 f.other]]),some (.row 1 [[.islice (G.map u8R) (some c.nodes.length)]]),some (.row 1 [[.int .i64 f.node]]),some (.row 1 [[.int .i64 f.other]])] (σ:=[1]) (by simp +decide only [go_sem]) rfl rfl (by simp +decide only [go_sem]<;>rfl) (by simp +decide only [go_sem]<;>rfl) h).trans ?_)
 simp +decide only [go_sem]<;>rfl
theorem e3z (c:Cir) (f:Flt) (G:List Nat) (hq:f.pin < 0):a0c L.env false (sem L.env Mf) (.func (.func 118) [] []) [.agg [sl c.nc (c.nodes.map Nd.enc),sl c.mc (c.names.map a10),.nilslice,sl c.oc (c.outs.map a0b)],.agg [.int .i64 f.node,.int .i64 f.pin],.func (.func 119) [] [.ptr 2 0 0,.ptr 4 0 0]] [some (.row 4 [[sl c.nc (c.nodes.map Nd.enc),sl c.mc (c.names.map a10),.nilslice,sl c.oc (c.outs.map a0b)]]),some (.row 5 [[.int .u8 f.model,.int .i64 f.node,.int .i64 f.pin,.int .u8 f.value,.int .i64 f.other]]),some (.row 1 [[.islice (G.map u8R) (some c.nodes.length)]]),some (.row 1 [[.int .i64 f.node]]),some (.row 1 [[.int .i64 f.other]])] = some (.ptr 8 0 0,[some (.row 4 [[sl c.nc (c.nodes.map Nd.enc),sl c.mc (c.names.map a10),.nilslice,sl c.oc (c.outs.map a0b)]]),some (.row 5 [[.int .u8 f.model,.int .i64 f.node,.int .i64 f.pin,.int .u8 f.value,.int .i64 f.other]]),some (.row 1 [[.islice (G.map u8R) (some c.nodes.length)]]),some (.row 1 [[.int .i64 f.node]]),some (.row 1 [[.int .i64 f.other]]),some (.row 4 [[sl c.nc (c.nodes.map Nd.enc),sl c.mc (c.names.map a10),.nilslice,sl c.oc (c.outs.map a0b)]]),some (.row 2 [[.int .i64 f.node,.int .i64 f.pin]]),some (.row 1 [[.func (.func 119) [] [.ptr 2 0 0,.ptr 4 0 0]]]),some (.row 7 [[sl c.nc (c.nodes.map Nd.enc),sl c.mc (c.names.map a10),.nilslice,sl c.oc (c.outs.map a0b),.nilslice,.func (.func 149) [] [.ptr 6 0 0,.ptr 7 0 0],.func (.func 116) [] []]])],[2,4]):=by
 have h:=d9p c (.row 1 [[.islice (G.map u8R) (some c.nodes.length)]]) (.row 1 [[.int .i64 f.other]]) 119 f.node f.pin hq
 refine a7n (by kernel_rfl) (by kernel_rfl) rfl ((a29 (sem L.env Mf 118) _ [some (.row 4 [[sl c.nc (c.nodes.map Nd.enc),sl c.mc (c.names.map a10),.nilslice,sl c.oc (c.outs.map a0b)]]),some (.row 5 [[.int .u8 f.model,.int .i64 f.node,.int .i64 f.pin,.int .u8 f.value,.int .i64 f.other]]),some (.row 1 [[.islice (G.map u8R) (some c.nodes.length)]]),some (.row 1 [[.int .i64 f.node]]),some (.row 1 [[.int .i64 f.other]])] (σ:=[2,4]) (by simp +decide only [go_sem]) rfl rfl (by simp +decide only [go_sem]<;>rfl) (by simp +decide only [go_sem]<;>rfl) h).trans ?_)
 simp +decide only [go_sem]<;>rfl
def b2g (c:Cir) (nets net pin:AV):AObj:=.row 7 [[sl c.nc (c.nodes.map Nd.enc),sl c.mc (c.names.map a10),.nilslice,sl c.oc (c.outs.map a0b),nets,net,pin]]
theorem d0c (c:Cir) (f:Flt) (hf:FltOk c.nodes f) (G:List Nat) (hG:G.length = c.nodes.length) (hGv:∀ v ∈ G,v ≤ 3):∃ net pin,NetN net (hkF f (a96 nAlg G f)).net ∧ PinN pin (hkF f (a96 nAlg G f)).pin ∧
 sem L.env Mf 76 [.agg [sl c.nc (c.nodes.map Nd.enc),sl c.mc (c.names.map a10),.nilslice,sl c.oc (c.outs.map a0b)],.agg [.int .u8 f.model,.int .i64 f.node,.int .i64 f.pin,.int .u8 f.value,.int .i64 f.other],.islice (G.map u8R) (some c.nodes.length)] [] = some (.ptr 0 0 0,[some (b2g c .nilslice net pin)]):=by
 rcases hf.model with hm|hm|hm
 · -- stuck
  have hv:a96 nAlg G f = f.value:=by unfold a96;rw [if_pos hm];rfl
  have m0:¬ (f.model:Int) = 2:=by omega
  have m1:¬ (f.model:Int) = 3:=by omega
  have hc:c59 (.func (.func 120) [] [.iptr [.int .u8 f.model,.int .i64 f.node,.int .i64 f.pin,.int .u8 f.value,.int .i64 f.other]]) f.value:=⟨rfl,fun d H w=>a04 (by kernel_rfl) (by kernel_rfl) rfl rfl (d29 w f) rfl⟩
  rw [hv]
  by_cases hq:f.pin < 0
  ·have hat:=e3y c f G hq
   refine ⟨.func (.func 149) [] [.iptr [.int .i64 f.node,.int .i64 f.pin],.iptr [.func (.func 120) [] [.iptr [.int .u8 f.model,.int .i64 f.node,.int .i64 f.pin,.int .u8 f.value,.int .i64 f.other]]]],.func (.func 116) [] [],⟨rfl,rfl,rfl,fun d H n w=>?_⟩,?_,?_⟩
   ·have h1:=a04 (E:=L.env) (draw:=d) (call:=sem L.env Mf) (H:=H) (g:=149) (fs:=[]) (ar:=[.int .i64 n,.int .u8 w]) (cs:=[.iptr [.int .i64 f.node,.int .i64 f.pin],.iptr [.func (.func 120) [] [.iptr [.int .u8 f.model,.int .i64 f.node,.int .i64 f.pin,.int .u8 f.value,.int .i64 f.other]]]]) (by kernel_rfl) (by kernel_rfl) rfl rfl (d6i n w f.node f.value f.pin _ hc rfl) rfl
    rw [h1]
    have:(if n = f.node then f.value else w) = (hkF f f.value).net n w:=by
     unfold hkF Flt.hitsNet
     have h2:¬ f.model = 2:=by omega
     simp [hq,h2]
    rw [this]
   ·have:(hkF f f.value).pin = fun _ _ w=>w:=by
     funext n p w;unfold hkF Flt.hitsPin
     have:¬ 0 ≤ f.pin:=by omega
     simp [this]
    rw [this];exact d7p
   ·(refine sv Tryz.f76 ?_;simp only [Tryz.f76,gS])
    (repeat first|simp only [ww]|(apply xa;simp +decide only [go_sem,m0,m1,hat];rfl;kernel_rfl))
    refine a6t (vs:=[.ptr 8 0 0]) (by simp +decide only [go_sem]) ?_
    unfold b2g
    simp +decide only [go_sem]<;>rfl
  ·have hat:=e3x c f G hq
   refine ⟨.func (.func 148) [] [],.func (.func 150) [] [.iptr [.int .i64 f.node,.int .i64 f.pin],.iptr [.func (.func 120) [] [.iptr [.int .u8 f.model,.int .i64 f.node,.int .i64 f.pin,.int .u8 f.value,.int .i64 f.other]]]],?_,⟨rfl,rfl,rfl,fun d H n p w=>?_⟩,?_⟩
   ·have:(hkF f f.value).net = fun _ w=>w:=by
     funext n w;unfold hkF Flt.hitsNet
     simp [hq]
    rw [this];exact e6v
   ·have h1:=a04 (E:=L.env) (draw:=d) (call:=sem L.env Mf) (H:=H) (g:=150) (fs:=[]) (ar:=[.int .i64 n,.int .i64 p,.int .u8 w]) (cs:=[.iptr [.int .i64 f.node,.int .i64 f.pin],.iptr [.func (.func 120) [] [.iptr [.int .u8 f.model,.int .i64 f.node,.int .i64 f.pin,.int .u8 f.value,.int .i64 f.other]]]]) (by kernel_rfl) (by kernel_rfl) rfl rfl (e3w n p w f.node f.value f.pin _ hc) rfl
    rw [h1]
    have:(if n = f.node ∧ (p:Int) = f.pin then f.value else w) = (hkF f f.value).pin n p w:=by
     unfold hkF Flt.hitsPin
     have:0 ≤ f.pin:=by omega
     simp [this]
    rw [this]
   ·(refine sv Tryz.f76 ?_;simp only [Tryz.f76,gS])
    (repeat first|simp only [ww]|(apply xa;simp +decide only [go_sem,m0,m1,hat];rfl;kernel_rfl))
    refine a6t (vs:=[.ptr 8 0 0]) (by simp +decide only [go_sem]) ?_
    unfold b2g
    simp +decide only [go_sem]<;>rfl
 · -- wired
  have hb:=hf.bridge (by omega)
  have m0:(f.model:Int) = 2:=by omega
  obtain ⟨va,hva⟩:∃ v,G[f.node]? = some v:=⟨_,z9e (by rw [hG];exact hf.node)⟩
  obtain ⟨vb,hvb⟩:∃ v,G[f.other]? = some v:=⟨_,z9e (by rw [hG];exact hf.other)⟩
  obtain ⟨k,hk⟩:∃ k,k = if f.value = 1 then 7 else 5:=⟨_,rfl⟩
  have hkl:k < 16:=by rw [hk];split<;>omega
  have hv:a96 nAlg G f = a3s k [va,vb]:=by
   have h1:¬ f.model = 0:=by omega
   have h2:¬ f.model = 3:=by omega
   have h3:=hf.value
   have e:∀ k,nAlg.ev k [G.getD f.node nAlg.z,G.getD f.other nAlg.z] = a3s k [va,vb]:=fun k=>by
    show a3s k (([G.getD f.node 0,G.getD f.other 0]:List Nat).map a3c) = _
    rw [List.getD,hva,List.getD,hvb]
    congr 1
    exact a8w (fun v hv=>by simp at hv;rcases hv with rfl|rfl;exact hGv _ (List.mem_of_getElem? hva);exact hGv _ (List.mem_of_getElem? hvb))
   unfold a96
   rw [if_neg h1,if_neg h2]
   by_cases h4:f.value = 0
   ·rw [if_pos h4,e,hk,if_neg (by omega)]
   ·rw [if_neg h4,e,hk,if_pos (by omega)]
  have hrs:=fun (d:Bool) (H:a03)=>a04 (E:=L.env) (draw:=d) (call:=sem L.env Mf) (H:=H) (g:=115) (fs:=[]) (ar:=[.int .u8 f.value]) (cs:=[]) (by kernel_rfl) (by kernel_rfl) rfl rfl (c2g f.value k hk) rfl
  have hrc:=fun (d:Bool) (H:a03)=>a04 (E:=L.env) (draw:=d) (call:=sem L.env Mf) (H:=H) (g:=147) (fs:=[]) (ar:=[.int .u8 va,.int .u8 vb]) (cs:=[.iptr [.int .u8 k]]) (by kernel_rfl) (by kernel_rfl) rfl rfl (e2b va vb k hkl) rfl
  rw [hv]
  generalize a3s k [va,vb] = w0 at hrc ⊢
  have hfn:=hf.node
  have hfo:=hf.other
  refine ⟨.func (.func 117) [] [.iptr [.int .i64 f.node],.iptr [.int .i64 f.other],.iptr [.int .u8 w0]],.func (.func 116) [] [],⟨rfl,rfl,rfl,fun d H n w=>?_⟩,?_,?_⟩
  ·have h1:=a04 (E:=L.env) (draw:=d) (call:=sem L.env Mf) (H:=H) (g:=117) (fs:=[]) (ar:=[.int .i64 n,.int .u8 w]) (cs:=[.iptr [.int .i64 f.node],.iptr [.int .i64 f.other],.iptr [.int .u8 w0]]) (by kernel_rfl) (by kernel_rfl) rfl rfl (d1z n w f.node f.other w0) rfl
   rw [h1]
   have:(if n = f.node ∨ n = f.other then w0 else w) = (hkF f w0).net n w:=by
    unfold hkF Flt.hitsNet
    simp [hb.1,hm]
   rw [this]
  ·have:(hkF f w0).pin = fun _ _ w=>w:=by
    funext n p w;unfold hkF Flt.hitsPin
    simp [hb.1]
   rw [this];exact d7p
  ·(refine sv Tryz.f76 ?_;simp only [Tryz.f76,gS])
   (repeat first|simp only [ww]|(apply xa;simp +decide only [go_sem,m0,hrs,hrc,hva,hvb,hG,hfn,hfo];rfl;kernel_rfl))
   refine a6t (vs:=[.ptr 6 0 0]) (by simp +decide only [go_sem]) ?_
   unfold b2g
   simp +decide only [go_sem]<;>rfl
 · -- strong
  have hb:=hf.bridge (by omega)
  have hq:f.pin < 0:=by rw [hb.1];decide
  have m0:¬ (f.model:Int) = 2:=by omega
  have m1:(f.model:Int) = 3:=by omega
  obtain ⟨vb,hvb⟩:∃ v,G[f.other]? = some v:=⟨_,z9e (by rw [hG];exact hf.other)⟩
  have hv:a96 nAlg G f = vb:=by
   unfold a96
   rw [if_neg (by omega),if_pos hm,List.getD,hvb];rfl
  have hat:=e3z c f G hq
  rw [m1] at hat
  have hc:c59 (.func (.func 119) [] [.iptr [.islice (G.map u8R) (some c.nodes.length)],.iptr [.int .i64 f.other]]) vb:=⟨rfl,fun d H w=>a04 (by kernel_rfl) (by kernel_rfl) rfl rfl (c7r w G f.other vb c.nodes.length hvb hG.symm) rfl⟩
  rw [hv]
  refine ⟨.func (.func 149) [] [.iptr [.int .i64 f.node,.int .i64 f.pin],.iptr [.func (.func 119) [] [.iptr [.islice (G.map u8R) (some c.nodes.length)],.iptr [.int .i64 f.other]]]],.func (.func 116) [] [],⟨rfl,rfl,rfl,fun d H n w=>?_⟩,?_,?_⟩
  ·have h1:=a04 (E:=L.env) (draw:=d) (call:=sem L.env Mf) (H:=H) (g:=149) (fs:=[]) (ar:=[.int .i64 n,.int .u8 w]) (cs:=[.iptr [.int .i64 f.node,.int .i64 f.pin],.iptr [.func (.func 119) [] [.iptr [.islice (G.map u8R) (some c.nodes.length)],.iptr [.int .i64 f.other]]]]) (by kernel_rfl) (by kernel_rfl) rfl rfl (d6i n w f.node vb f.pin _ hc rfl) rfl
   rw [h1]
   have:(if n = f.node then vb else w) = (hkF f vb).net n w:=by
    unfold hkF Flt.hitsNet
    have h2:¬ f.model = 2:=by omega
    simp [hq,h2]
   rw [this]
  ·have:(hkF f vb).pin = fun _ _ w=>w:=by
    funext n p w;unfold hkF Flt.hitsPin
    have:¬ 0 ≤ f.pin:=by omega
    simp [this]
   rw [this];exact d7p
  ·(refine sv Tryz.f76 ?_;simp only [Tryz.f76,gS])
   (repeat first|simp only [ww]|(apply xa;simp +decide only [go_sem,m0,m1,hat];rfl;kernel_rfl))
   refine a6t (vs:=[.ptr 8 0 0]) (by simp +decide only [go_sem]) ?_
   unfold b2g
   simp +decide only [go_sem]<;>rfl
attribute [go_sem] b2g
theorem e39 {m:Nat} {d:AV → Option AV} (l:List Nat):a9x m d (l.map u8R) = some (l.map u8R):=a17 m d (a1g l)
theorem c9h (c:Cir) (hc:c.wf) (net pin:AV) (g:Hk Nat) (h1:refs net = []) (h2:PinN pin g.pin) (nets:List Nat) (hl:nets.length = c.nodes.length) (n:Nat) (hn:n < c.nodes.length) :
 sem L.env Mf 122 [.ptr 0 0 0,.int .i64 n] [some (b2g c (.slice 1 0 c.nodes.length (some c.nodes.length)) net pin),some (.row 1 (nets.map u8R))] = some (sl none ((a11 nAlg c.nodes g nets n).map u8R),[some (b2g c (.slice 1 0 c.nodes.length (some c.nodes.length)) net pin),some (.row 1 (nets.map u8R))]):=by
 have hnl:=hc.len
 obtain ⟨x,hx⟩:∃ x,c.nodes[n]? = some x:=⟨_,z9e hn⟩
 have hxm:=List.mem_of_getElem? hx
 have hil:=hc.insl hxm
 have hrl:(a11 nAlg c.nodes g nets n).length = x.ins.length:=by rw [a4a,a1s hx]
 have h3:=h2.flat
 have e1:∀ π,ren π net = net:=fun π=>a1d π _ h1
 have e2:∀ π,ren π pin = pin:=fun π=>a1d π _ h3
 have hpc:=h2.call
 unfold b2g
 (refine sv Tryz.f122 ?_;simp only [Tryz.f122,gS])
 (repeat first|simp only [ww]|(apply xa;simp +decide only [go_sem,hx,hn];rfl;kernel_rfl))
 refine a0z (σ:=Nat) kp122_0 (fun i=>[(0,.ptr 0 0 0),(1,.int .i64 n),(5,grV 2 (((a11 nAlg c.nodes g nets n).take i).map u8R)),(16,sl x.c (x.ins.map a0b)),(17,.int .i64 x.ins.length),(18,.int .i64 i)])
  (fun i=>[some (.row 7 [[sl c.nc (c.nodes.map Nd.enc),sl c.mc (c.names.map a10),.nilslice,sl c.oc (c.outs.map a0b),.slice 1 0 c.nodes.length (some c.nodes.length),net,pin]]),some (.row 1 (nets.map u8R))] ++ grH 1 (((a11 nAlg c.nodes g nets n).take i).map u8R)) (fun i=>x.ins.length - i) (fun i=>i ≤ x.ins.length) 0 ?_ (Nat.zero_le _) ?_
 ·(simp +decide only [go_sem,a02,a00,List.take_zero,List.map_nil,a0s,a0t,h1,h3,e1,e2,a2n,a2y]<;>rfl)
 ·intro i hi
  by_cases hlt:i < x.ins.length
  ·obtain ⟨m,hm⟩:∃ m,x.ins[i]? = some m:=⟨_,z9e hlt⟩
   have hmn:=hc.ins x hxm m (List.mem_of_getElem? hm)
   obtain ⟨w,hw⟩:∃ w,nets[m]? = some w:=⟨_,z9e (by omega)⟩
   have c1:(i:Int) < x.ins.length:=by omega
   have hwi:=wI1 (n:=i) (by omega)
   have hs:=b6m (A:=nAlg) (h:=g) (nets:=nets) (by rw [a1s hx];exact hm) hw
   have htl:((a11 nAlg c.nodes g nets n).take i).length = i:=by rw [List.length_take];omega
   generalize (a11 nAlg c.nodes g nets n).take i = T at hs htl
   cases T with
   | nil=>
    (repeat first|simp only [ww]|(apply xa;simp +decide only [go_sem,c1,hlt,hm,hmn,hw,hwi,hpc,hl,List.map_nil,a0s,a0t];rfl;kernel_rfl))
    refine a2i (i + 1) ?_ (by omega) (by omega)
    rw [hs]
    (simp +decide only [go_sem,a02,a00,List.map_cons,List.map_nil,List.nil_append,a09,a0a,List.length_nil,h1,h3,e1,e2,a2n,a2y]<;>rfl)
   | cons a r=>
    simp only [List.length_cons] at htl
    have hrm:r.length + 1 + 1 ≤ 1000000000:=by omega
    (repeat first|simp only [ww]|(apply xa;simp +decide only [go_sem,c1,hlt,hm,hmn,hw,hwi,hpc,hl,List.map_cons,a09,a0a,hrm,List.length_cons];rfl;kernel_rfl))
    refine a2i (i + 1) ?_ (by omega) (by omega)
    rw [hs]
    (simp +decide only [go_sem,a02,a00,List.map_cons,List.map_nil,List.cons_append,a09,a0a,List.length_cons,h1,h3,e1,e2,a2n,a2y]<;>rfl)
  ·obtain rfl:i = x.ins.length:=by omega
   have c1:¬ (x.ins.length:Int) < x.ins.length:=by omega
   rw [List.take_of_length_le (by omega)]
   generalize a11 nAlg c.nodes g nets n = T
   cases T with
   | nil=>
    (repeat first|simp only [ww]|(apply xa;simp +decide only [go_sem,c1,List.map_nil,a0s,a0t];rfl;kernel_rfl))
    (apply fqb;simp +decide only [go_sem,a2y,List.map_nil,e1,e2]<;>rfl)
   | cons a r=>
    (repeat first|simp only [ww]|(apply xa;simp +decide only [go_sem,c1,List.map_cons,a09,a0a];rfl;kernel_rfl))
    (apply fqb;simp +decide only [go_sem,a2y,e39,List.map_cons,b9t,e1,e2]<;>rfl)
theorem c4v (c:Cir) (net pin:AV) (h1:refs net = []) (h2:refs pin = []):a0x (some (b2g c (.slice 1 0 c.nodes.length (some c.nodes.length)) net pin)) = [1]:=by simp +decide only [go_sem,h1,h2]
theorem b8y (c:Cir) (net pin:AV) (h1:refs net = []) (h2:refs pin = []) (π:Nat → Option Nat) (hπ:π 1 = some 1):a0m π (b2g c (.slice 1 0 c.nodes.length (some c.nodes.length)) net pin) = b2g c (.slice 1 0 c.nodes.length (some c.nodes.length)) net pin:=by
 have e1:∀ π,ren π net = net:=fun π=>a1d π _ h1
 have e2:∀ π,ren π pin = pin:=fun π=>a1d π _ h2
 simp +decide only [go_sem,e1,e2,hπ]
theorem b4u {d:Bool} (R:a03) (c:Cir) (hc:c.wf) (net pin:AV) (g:Hk Nat) (h1:refs net = []) (h2:PinN pin g.pin) (nets:List Nat) (hl:nets.length = c.nodes.length) (n:Nat) (hn:n < c.nodes.length) :
 a0c L.env d (sem L.env Mf) (.func (.func 122) [] []) [.ptr 0 0 0,.int .i64 n] (some (b2g c (.slice 1 0 c.nodes.length (some c.nodes.length)) net pin) :: some (.row 1 (nets.map u8R)) :: R) = some (sl none ((a11 nAlg c.nodes g nets n).map u8R),some (b2g c (.slice 1 0 c.nodes.length (some c.nodes.length)) net pin) :: some (.row 1 (nets.map u8R)) :: R,[0,1]):=
 c51 (by kernel_rfl) (by kernel_rfl) rfl rfl (c4v c net pin h1 h2.flat) (a0p (a1g nets)) rfl (b8y c net pin h1 h2.flat _ rfl) (fun n=>b8y c net pin h1 h2.flat _ rfl) (FlatO.row (a1g nets)) (c9h c hc net pin g h1 h2 nets hl n hn) (a6d _ _)
theorem d3u (c:Cir) (hc:c.wf) (net pin:AV) (g:Hk Nat) (h1:refs net = []) (h2:PinN pin g.pin) (nets:List Nat) (hl:nets.length = c.nodes.length) (n:Nat) (hn:n < c.nodes.length) (hv:∀ v ∈ a11 nAlg c.nodes g nets n,v ≤ 3) :
 sem L.env Mf 121 [.ptr 0 0 0,.int .i64 n] [some (b2g c (.slice 1 0 c.nodes.length (some c.nodes.length)) net pin),some (.row 1 (nets.map u8R))] = some (.int .u8 (nAlg.ev (a0f c.nodes n) (a11 nAlg c.nodes g nets n):Nat),[some (b2g c (.slice 1 0 c.nodes.length (some c.nodes.length)) net pin),some (.row 1 (nets.map u8R))]):=by
 have hnl:=hc.len
 obtain ⟨x,hx⟩:∃ x,c.nodes[n]? = some x:=⟨_,z9e hn⟩
 have hxm:=List.mem_of_getElem? hx
 have hil:=hc.insl hxm
 have k14:=hc.kind x hxm
 have hrl:(a11 nAlg c.nodes g nets n).length = x.ins.length:=by rw [a4a,a1s hx]
 have h3:=h2.flat
 have e1:∀ π,ren π net = net:=fun π=>a1d π _ h1
 have e2:∀ π,ren π pin = pin:=fun π=>a1d π _ h3
 have hrd:=fun (d:Bool)=>b4u (d:=d) [] c hc net pin g h1 h2 nets hl n hn
 have hev:=fun (d:Bool)=>c66 (V:=sl none ((a11 nAlg c.nodes g nets n).map u8R)) (.imm none) (by omega) (d:=d) x.kind (by omega)
 have he:nAlg.ev (a0f c.nodes n) (a11 nAlg c.nodes g nets n) = a3s x.kind (a11 nAlg c.nodes g nets n):=by
  rw [a14 hx];show a3s x.kind ((a11 nAlg c.nodes g nets n).map a3c) = _;rw [a8w hv]
 rw [he]
 have hev:∀ (d:Bool) (H:a03),a0c L.env d (sem L.env Mf) (.func (.func 25) [] []) [.int .u8 x.kind,sl none ((a11 nAlg c.nodes g nets n).map u8R)] H = some (.int .u8 (a3s x.kind (a11 nAlg c.nodes g nets n):Nat),H,[]):=fun d H=>
  a04 (by kernel_rfl) (by kernel_rfl) rfl (by simp only [List.nil_append,List.append_nil,go_sem]) (b10 x.kind (by omega) _ _ _ (.imm none) (by omega)) rfl
 generalize a3s x.kind (a11 nAlg c.nodes g nets n) = w at hev ⊢
 generalize (a11 nAlg c.nodes g nets n).map u8R = R at hrd hev
 unfold b2g at hrd ⊢
 (refine sv Tryz.f121 ?_;simp only [Tryz.f121,gS])
 (repeat first|simp only [ww]|(apply xa;simp +decide only [go_sem,hx,hn,hrd,hev];rfl;kernel_rfl))
 (apply fqb;simp +decide only [go_sem,a2y,e1,e2]<;>rfl)
theorem c6c {d:Bool} (R:a03) (c:Cir) (hc:c.wf) (net pin:AV) (g:Hk Nat) (h1:refs net = []) (h2:PinN pin g.pin) (nets:List Nat) (hl:nets.length = c.nodes.length) (n:Nat) (hn:n < c.nodes.length) (hv:∀ v ∈ a11 nAlg c.nodes g nets n,v ≤ 3) :
 a0c L.env d (sem L.env Mf) (.func (.func 121) [.ptr 0 0 0] []) [.int .i64 n] (some (b2g c (.slice 1 0 c.nodes.length (some c.nodes.length)) net pin) :: some (.row 1 (nets.map u8R)) :: R) = some (.int .u8 (nAlg.ev (a0f c.nodes n) (a11 nAlg c.nodes g nets n):Nat),some (b2g c (.slice 1 0 c.nodes.length (some c.nodes.length)) net pin) :: some (.row 1 (nets.map u8R)) :: R,[0,1]):=
 c51 (by kernel_rfl) (by kernel_rfl) rfl rfl (c4v c net pin h1 h2.flat) (a0p (a1g nets)) rfl (b8y c net pin h1 h2.flat _ rfl) (fun n=>b8y c net pin h1 h2.flat _ rfl) (FlatO.row (a1g nets)) (d3u c hc net pin g h1 h2 nets hl n hn hv) rfl
end Go.TInst
