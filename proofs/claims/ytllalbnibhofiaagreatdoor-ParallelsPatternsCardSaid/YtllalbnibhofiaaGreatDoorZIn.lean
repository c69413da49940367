/- Part of a proof. No condition. -/
import Derived.Test.YtllalbnibhofiaaGreatDoorZSm
import Derived.Test.YtllalbnibhofiaaGreatDoorAxF
import Derived.Test.YtllalbnibhofiaaGreatDoorPcB
set_option linter.unusedSimpArgs false
set_option linter.unusedVariables false
namespace Go.ZInst
open Go.Proofs Go.Ax Go.Pc
set_option maxRecDepth 100000
/-- One value that is captured. -/
theorem bmz (c:Cir) (X:AObj) (g n:Nat) (q:Int) (hq:q < 0):sem L.env Mf 91 [.agg [sl c.nc (c.nodes.map Nd.enc),sl c.mc (c.names.map abv),.nilslice,sl c.oc (c.outs.map aaj)],.agg [.int .i64 n,.int .i64 q],.func (.func g) [] [.ptr 0 0 0]] [some X] = some (.ptr 4 0 0,[some X,some (.row 4 [[sl c.nc (c.nodes.map Nd.enc),sl c.mc (c.names.map abv),.nilslice,sl c.oc (c.outs.map aaj)]]),some (.row 2 [[.int .i64 n,.int .i64 q]]),some (.row 1 [[.func (.func g) [] [.ptr 0 0 0]]]),some (.row 7 [[sl c.nc (c.nodes.map Nd.enc),sl c.mc (c.names.map abv),.nilslice,sl c.oc (c.outs.map aaj),.nilslice,.func (.func 118) [] [.ptr 2 0 0,.ptr 3 0 0],.func (.func 89) [] []]])]):=by
 have hs:AV.storable (.func (.func g) [] [.ptr 0 0 0]) = true:=rfl
 (refine sv Tryz.f91 ?_;simp only [Tryz.f91,gS])
 (repeat first|simp only [ww]|(apply xa;simp +decide only [go_sem,hq,hs];rfl;kernel_rfl))
 refine ahf (vs:=[.ptr 4 0 0]) (by simp +decide only [go_sem]) ?_
 simp +decide only [go_sem]<;>rfl
theorem bmy (c:Cir) (X:AObj) (g n:Nat) (q:Int) (hq:¬ q < 0):sem L.env Mf 91 [.agg [sl c.nc (c.nodes.map Nd.enc),sl c.mc (c.names.map abv),.nilslice,sl c.oc (c.outs.map aaj)],.agg [.int .i64 n,.int .i64 q],.func (.func g) [] [.ptr 0 0 0]] [some X] = some (.ptr 4 0 0,[some X,some (.row 4 [[sl c.nc (c.nodes.map Nd.enc),sl c.mc (c.names.map abv),.nilslice,sl c.oc (c.outs.map aaj)]]),some (.row 2 [[.int .i64 n,.int .i64 q]]),some (.row 1 [[.func (.func g) [] [.ptr 0 0 0]]]),some (.row 7 [[sl c.nc (c.nodes.map Nd.enc),sl c.mc (c.names.map abv),.nilslice,sl c.oc (c.outs.map aaj),.nilslice,.func (.func 117) [] [],.func (.func 119) [] [.ptr 2 0 0,.ptr 3 0 0]]])]):=by
 have hs:AV.storable (.func (.func g) [] [.ptr 0 0 0]) = true:=rfl
 (refine sv Tryz.f91 ?_;simp only [Tryz.f91,gS])
 (repeat first|simp only [ww]|(apply xa;simp +decide only [go_sem,hq,hs];rfl;kernel_rfl))
 refine ahf (vs:=[.ptr 4 0 0]) (by simp +decide only [go_sem]) ?_
 simp +decide only [go_sem]<;>rfl
theorem bmx (c:Cir) (X Y:AObj) (g n:Nat) (q:Int) (hq:q < 0):sem L.env Mf 91 [.agg [sl c.nc (c.nodes.map Nd.enc),sl c.mc (c.names.map abv),.nilslice,sl c.oc (c.outs.map aaj)],.agg [.int .i64 n,.int .i64 q],.func (.func g) [] [.ptr 0 0 0,.ptr 1 0 0]] [some X,some Y] = some (.ptr 5 0 0,[some X,some Y,some (.row 4 [[sl c.nc (c.nodes.map Nd.enc),sl c.mc (c.names.map abv),.nilslice,sl c.oc (c.outs.map aaj)]]),some (.row 2 [[.int .i64 n,.int .i64 q]]),some (.row 1 [[.func (.func g) [] [.ptr 0 0 0,.ptr 1 0 0]]]),some (.row 7 [[sl c.nc (c.nodes.map Nd.enc),sl c.mc (c.names.map abv),.nilslice,sl c.oc (c.outs.map aaj),.nilslice,.func (.func 118) [] [.ptr 3 0 0,.ptr 4 0 0],.func (.func 89) [] []]])]):=by
 have hs:AV.storable (.func (.func g) [] [.ptr 0 0 0,.ptr 1 0 0]) = true:=rfl
 (refine sv Tryz.f91 ?_;simp only [Tryz.f91,gS])
 (repeat first|simp only [ww]|(apply xa;simp +decide only [go_sem,hq,hs];rfl;kernel_rfl))
 refine ahf (vs:=[.ptr 5 0 0]) (by simp +decide only [go_sem]) ?_
 simp +decide only [go_sem]<;>rfl
open Go.Proofs Go.Ax Go.Pc
set_option maxRecDepth 100000
/-- What replaces a net, a pin. -/
structure NetN (v:AV) (g:Nat → Nat → Nat):Prop where
 flat:refs v = []
 sto:v.storable = true
 nn:al0 v = some v
 call:∀ (d:Bool) (H:aa4) (n w:Nat),aaa L.env d (sem L.env Mf) v [.int .i64 n,.int .u8 w] H = some (.int .u8 (g n w),H,[])
structure PinN (v:AV) (g:Nat → Nat → Nat → Nat):Prop where
 flat:refs v = []
 sto:v.storable = true
 nn:al0 v = some v
 call:∀ (d:Bool) (H:aa4) (n p w:Nat),aaa L.env d (sem L.env Mf) v [.int .i64 n,.int .i64 p,.int .u8 w] H = some (.int .u8 (g n p w),H,[])
theorem bgo (n:Int) (w:Nat):sem L.env Mf 117 [.int .i64 n,.int .u8 w] [] = some (.int .u8 w,[]):=by
 (refine sv Tryz.f117 ?_;simp only [Tryz.f117,gS])
 (repeat first|simp only [ww]|(apply xa;simp +decide only [go_sem];rfl;kernel_rfl))
 (apply fqb;simp +decide only [go_sem]<;>rfl)
theorem bgq (n p:Int) (w:Nat):sem L.env Mf 89 [.int .i64 n,.int .i64 p,.int .u8 w] [] = some (.int .u8 w,[]):=by
 (refine sv Tryz.f89 ?_;simp only [Tryz.f89,gS])
 (repeat first|simp only [ww]|(apply xa;simp +decide only [go_sem];rfl;kernel_rfl))
 (apply fqb;simp +decide only [go_sem]<;>rfl)
theorem btc:NetN (.func (.func 117) [] []) (fun _ w=>w):=⟨rfl,rfl,rfl,fun d H n w=>aa3 (by kernel_rfl) (by kernel_rfl) rfl rfl (bgo n w) rfl⟩
theorem bkp:PinN (.func (.func 89) [] []) (fun _ _ w=>w):=⟨rfl,rfl,rfl,fun d H n p w=>aa3 (by kernel_rfl) (by kernel_rfl) rfl rfl (bgq n p w) rfl⟩
theorem nI {a b:Nat} (h:a ≠ b):¬ (a:Int) = b:=by omega
theorem bew (n w a b v:Nat):sem L.env Mf 90 [.int .i64 n,.int .u8 w,.iptr [.int .i64 a],.iptr [.int .i64 b],.iptr [.int .u8 v]] [] = some (.int .u8 (if n = a ∨ n = b then v else w:Nat),[]):=by
 by_cases h1:n = a
 ·subst h1
  rw [if_pos (.inl rfl)]
  (refine sv Tryz.f90 ?_;simp only [Tryz.f90,gS])
  (repeat first|simp only [ww]|(apply xa;simp +decide only [go_sem];rfl;kernel_rfl))
  (apply fqb;simp +decide only [go_sem]<;>rfl)
 by_cases h2:n = b
 ·subst h2
  rw [if_pos (.inr rfl)]
  have h1:=nI h1
  (refine sv Tryz.f90 ?_;simp only [Tryz.f90,gS])
  (repeat first|simp only [ww]|(apply xa;simp +decide only [go_sem,h1];rfl;kernel_rfl))
  (apply fqb;simp +decide only [go_sem]<;>rfl)
 ·rw [if_neg (by omega)]
  have h1:=nI h1
  have h2:=nI h2
  (refine sv Tryz.f90 ?_;simp only [Tryz.f90,gS])
  (repeat first|simp only [ww]|(apply xa;simp +decide only [go_sem,h1,h2];rfl;kernel_rfl))
  (apply fqb;simp +decide only [go_sem]<;>rfl)
theorem bal (w:Nat) (G:List Nat) (b v m:Nat) (hb:G[b]? = some v) (hm:m = G.length):sem L.env Mf 92 [.int .u8 w,.iptr [.islice (G.map u8R) (some m)],.iptr [.int .i64 b]] [] = some (.int .u8 v,[]):=by
 have hlt:=(List.getElem?_eq_some_iff.1 hb).1
 (refine sv Tryz.f92 ?_;simp only [Tryz.f92,gS])
 (repeat first|simp only [ww]|(apply xa;simp +decide only [go_sem,hb,hlt];rfl;kernel_rfl))
 (apply fqb;simp +decide only [go_sem]<;>rfl)
theorem bf5 (w:Nat) (f:Flt):sem L.env Mf 93 [.int .u8 w,.iptr [.int .u8 f.model,.int .i64 f.node,.int .i64 f.pin,.int .u8 f.value,.int .i64 f.other]] [] = some (.int .u8 f.value,[]):=by
 (refine sv Tryz.f93 ?_;simp only [Tryz.f93,gS])
 (repeat first|simp only [ww]|(apply xa;simp +decide only [go_sem];rfl;kernel_rfl))
 (apply fqb;simp +decide only [go_sem]<;>rfl)
/-- A function of one value that is constant. -/
def ay5 (fV:AV) (v:Nat):Prop:=refs fV = [] ∧ ∀ (d:Bool) (H:aa4) (w:Nat),aaa L.env d (sem L.env Mf) fV [.int .u8 w] H = some (.int .u8 v,H,[])
theorem bjd (n w a v:Nat) (q:Int) (fV:AV) (hf:ay5 fV v) (hst:fV.storable = true):sem L.env Mf 118 [.int .i64 n,.int .u8 w,.iptr [.int .i64 a,.int .i64 q],.iptr [fV]] [] = some (.int .u8 (if n = a then v else w:Nat),[]):=by
 have hc:=hf.2
 by_cases h1:n = a
 ·subst h1
  rw [if_pos rfl]
  (refine sv Tryz.f118 ?_;simp only [Tryz.f118,gS])
  (repeat first|simp only [ww]|(apply xa;simp +decide only [go_sem,hc];rfl;kernel_rfl))
  (apply fqb;simp +decide only [go_sem]<;>rfl)
 ·rw [if_neg h1]
  have h1:=nI h1
  (refine sv Tryz.f118 ?_;simp only [Tryz.f118,gS])
  (repeat first|simp only [ww]|(apply xa;simp +decide only [go_sem,h1];rfl;kernel_rfl))
  (apply fqb;simp +decide only [go_sem]<;>rfl)
theorem bqu (n p w a v:Nat) (q:Int) (fV:AV) (hf:ay5 fV v):sem L.env Mf 119 [.int .i64 n,.int .i64 p,.int .u8 w,.iptr [.int .i64 a,.int .i64 q],.iptr [fV]] [] = some (.int .u8 (if n = a ∧ (p:Int) = q then v else w:Nat),[]):=by
 have hc:=hf.2
 by_cases h1:n = a
 ·subst h1
  by_cases h2:(p:Int) = q
  ·subst h2
   rw [if_pos ⟨rfl,rfl⟩]
   (refine sv Tryz.f119 ?_;simp only [Tryz.f119,gS])
   (repeat first|simp only [ww]|(apply xa;simp +decide only [go_sem,hc];rfl;kernel_rfl))
   (apply fqb;simp +decide only [go_sem]<;>rfl)
  ·rw [if_neg (fun h=>h2 h.2)]
   (refine sv Tryz.f119 ?_;simp only [Tryz.f119,gS])
   (repeat first|simp only [ww]|(apply xa;simp +decide only [go_sem,h2];rfl;kernel_rfl))
   (apply fqb;simp +decide only [go_sem]<;>rfl)
 ·rw [if_neg (fun h=>h1 h.1)]
  have h1:=nI h1
  (refine sv Tryz.f119 ?_;simp only [Tryz.f119,gS])
  (repeat first|simp only [ww]|(apply xa;simp +decide only [go_sem,h1];rfl;kernel_rfl))
  (apply fqb;simp +decide only [go_sem]<;>rfl)
theorem bph (a b k:Nat) (hk:k < 16):sem L.env Mf 116 [.int .u8 a,.int .u8 b,.iptr [.int .u8 k]] [] = some (.int .u8 (aej k [a,b]:Nat),[]):=by
 have hev:=fun (d:Bool)=>ate (d:=d) (H:=[some (.row 1 [[.int .u8 a],[.int .u8 b]])]) (b:=0) k hk [a,b] (by simp) (some 2) [[.int .u8 a],[.int .u8 b]] (fun r hr=>by simp at hr;rcases hr with rfl|rfl<;>rfl) rfl rfl (m:=2) rfl
 generalize aej k [a,b] = w at hev
 (refine sv Tryz.f116 ?_;simp only [Tryz.f116,gS])
 (repeat first|simp only [ww]|(apply xa;simp +decide only [go_sem,hev];rfl;kernel_rfl))
 (apply fqb;simp +decide only [go_sem]<;>rfl)
theorem av3 (v:Nat) (k:Nat) (hk:k = if v = 1 then 7 else 5):sem L.env Mf 88 [.int .u8 v] [] = some (.func (.func 116) [] [.iptr [.int .u8 k]],[]):=by
 subst hk
 by_cases h:v = 1
 ·have h1:(v:Int) = 1:=by omega
  rw [if_pos h]
  (refine sv Tryz.f88 ?_;simp only [Tryz.f88,gS])
  (repeat first|simp only [ww]|(apply xa;simp +decide only [go_sem,h1];rfl;kernel_rfl))
  (apply fqb;simp +decide only [go_sem]<;>rfl)
 ·have h1:¬ (v:Int) = 1:=by omega
  rw [if_neg h]
  (refine sv Tryz.f88 ?_;simp only [Tryz.f88,gS])
  (repeat first|simp only [ww]|(apply xa;simp +decide only [go_sem,h1];rfl;kernel_rfl))
  (apply fqb;simp +decide only [go_sem]<;>rfl)
set_option maxHeartbeats 200000000
open Go.Proofs Go.Ax Go.Pc
set_option maxRecDepth 100000
theorem bqw (c:Cir) (f:Flt) (G:List Nat) (hq:f.pin < 0):aaa L.env false (sem L.env Mf) (.func (.func 91) [] []) [.agg [sl c.nc (c.nodes.map Nd.enc),sl c.mc (c.names.map abv),.nilslice,sl c.oc (c.outs.map aaj)],.agg [.int .i64 f.node,.int .i64 f.pin],.func (.func 93) [] [.ptr 1 0 0]] [some (.row 4 [[sl c.nc (c.nodes.map Nd.enc),sl c.mc (c.names.map abv),.nilslice,sl c.oc (c.outs.map aaj)]]),some (.row 5 [[.int .u8 f.model,.int .i64 f.node,.int .i64 f.pin,.int .u8 f.value,.int .i64 f.other]]),some (.row 1 [[.islice (G.map u8R) (some c.nodes.length)]]),some (.row 1 [[.int .i64 f.node]]),some (.row 1 [[.int .i64 f.other]])] = some (.ptr 8 0 0,[some (.row 4 [[sl c.nc (c.nodes.map Nd.enc),sl c.mc (c.names.map abv),.nilslice,sl c.oc (c.outs.map aaj)]]),some (.row 5 [[.int .u8 f.model,.int .i64 f.node,.int .i64 f.pin,.int .u8 f.value,.int .i64 f.other]]),some (.row 1 [[.islice (G.map u8R) (some c.nodes.length)]]),some (.row 1 [[.int .i64 f.node]]),some (.row 1 [[.int .i64 f.other]]),some (.row 4 [[sl c.nc (c.nodes.map Nd.enc),sl c.mc (c.names.map abv),.nilslice,sl c.oc (c.outs.map aaj)]]),some (.row 2 [[.int .i64 f.node,.int .i64 f.pin]]),some (.row 1 [[.func (.func 93) [] [.ptr 1 0 0]]]),some (.row 7 [[sl c.nc (c.nodes.map Nd.enc),sl c.mc (c.names.map abv),.nilslice,sl c.oc (c.outs.map aaj),.nilslice,.func (.func 118) [] [.ptr 6 0 0,.ptr 7 0 0],.func (.func 89) [] []]])],[1]):=by
 have h:=bmz c (.row 5 [[.int .u8 f.model,.int .i64 f.node,.int .i64 f.pin,.int .u8 f.value,.int .i64 f.other]]) 93 f.node f.pin hq
 refine akx (by kernel_rfl) (by kernel_rfl) rfl ((acd (sem L.env Mf 91) _ [some (.row 4 [[sl c.nc (c.nodes.map Nd.enc),sl c.mc (c.names.map abv),.nilslice,sl c.oc (c.outs.map aaj)]]),some (.row 5 [[.int .u8 f.model,.int .i64 f.node,.int .i64 f.pin,.int .u8 f.value,.int .i64 f.other]]),some (.row 1 [[.islice (G.map u8R) (some c.nodes.length)]]),some (.row 1 [[.int .i64 f.node]]),some (.row 1 [[.int .i64 f.other]])] (σ:=[1]) (by simp +decide only [go_sem]) rfl rfl (by simp +decide only [go_sem]<;>rfl) (by simp +decide only [go_sem]<;>rfl) h).trans ?_)
 simp +decide only [go_sem]<;>rfl
theorem bqv (c:Cir) (f:Flt) (G:List Nat) (hq:¬ f.pin < 0):aaa L.env false (sem L.env Mf) (.func (.func 91) [] []) [.agg [sl c.nc (c.nodes.map Nd.enc),sl c.mc (c.names.map abv),.nilslice,sl c.oc (c.outs.map aaj)],.agg [.int .i64 f.node,.int .i64 f.pin],.func (.func 93) [] [.ptr 1 0 0]] [some (.row 4 [[sl c.nc (c.nodes.map Nd.enc),sl c.mc (c.names.map abv),.nilslice,sl c.oc (c.outs.map aaj)]]),some (.row 5 [[.int .u8 f.model,.int .i64 f.node,.int .i64 f.pin,.int .u8 f.value,.int .i64 f.other]]),some (.row 1 [[.islice (G.map u8R) (some c.nodes.length)]]),some (.row 1 [[.int .i64 f.node]]),some (.row 1 [[.int .i64 f.other]])] = some (.ptr 8 0 0,[some (.row 4 [[sl c.nc (c.nodes.map Nd.enc),sl c.mc (c.names.map abv),.nilslice,sl c.oc (c.outs.map aaj)]]),some (.row 5 [[.int .u8 f.model,.int .i64 f.node,.int .i64 f.pin,.int .u8 f.value,.int .i64 f.other]]),some (.row 1 [[.islice (G.map u8R) (some c.nodes.length)]]),some (.row 1 [[.int .i64 f.node]]),some (.row 1 [[.int .i64 f.other]]),some (.row 4 [[sl c.nc (c.nodes.map Nd.enc),sl c.mc (c.names.map abv),.nilslice,sl c.oc (c.outs.map aaj)]]),some (.row 2 [[.int .i64 f.node,.int .i64 f.pin]]),some (.row 1 [[.func (.func 93) [] [.ptr 1 0 0]]]),some (.row 7 [[sl c.nc (c.nodes.map Nd.enc),sl c.mc (c.names.map abv),.nilslice,sl c.oc (c.outs.map aaj),.nilslice,.func (.func 117) [] [],.func (.func 119) [] [.ptr 6 0 0,.ptr 7 0 0]]])],[1]):=by
 have h:=bmy c (.row 5 [[.int .u8 f.model,.int .i64 f.node,.int .i64 f.pin,.int .u8 f.value,.int .i64 f.other]]) 93 f.node f.pin hq
 refine akx (by kernel_rfl) (by kernel_rfl) rfl ((acd (sem L.env Mf 91) _ [some (.row 4 [[sl c.nc (c.nodes.map Nd.enc),sl c.mc (c.names.map abv),.nilslice,sl c.oc (c.outs.map aaj)]]),some (.row 5 [[.int .u8 f.model,.int .i64 f.node,.int .i64 f.pin,.int .u8 f.value,.int .i64 f.other]]),some (.row 1 [[.islice (G.map u8R) (some c.nodes.length)]]),some (.row 1 [[.int .i64 f.node]]),some (.row 1 [[.int .i64 f.other]])] (σ:=[1]) (by simp +decide only [go_sem]) rfl rfl (by simp +decide only [go_sem]<;>rfl) (by simp +decide only [go_sem]<;>rfl) h).trans ?_)
 simp +decide only [go_sem]<;>rfl
theorem bqx (c:Cir) (f:Flt) (G:List Nat) (hq:f.pin < 0):aaa L.env false (sem L.env Mf) (.func (.func 91) [] []) [.agg [sl c.nc (c.nodes.map Nd.enc),sl c.mc (c.names.map abv),.nilslice,sl c.oc (c.outs.map aaj)],.agg [.int .i64 f.node,.int .i64 f.pin],.func (.func 92) [] [.ptr 2 0 0,.ptr 4 0 0]] [some (.row 4 [[sl c.nc (c.nodes.map Nd.enc),sl c.mc (c.names.map abv),.nilslice,sl c.oc (c.outs.map aaj)]]),some (.row 5 [[.int .u8 f.model,.int .i64 f.node,.int .i64 f.pin,.int .u8 f.value,.int .i64 f.other]]),some (.row 1 [[.islice (G.map u8R) (some c.nodes.length)]]),some (.row 1 [[.int .i64 f.node]]),some (.row 1 [[.int .i64 f.other]])] = some (.ptr 8 0 0,[some (.row 4 [[sl c.nc (c.nodes.map Nd.enc),sl c.mc (c.names.map abv),.nilslice,sl c.oc (c.outs.map aaj)]]),some (.row 5 [[.int .u8 f.model,.int .i64 f.node,.int .i64 f.pin,.int .u8 f.value,.int .i64 f.other]]),some (.row 1 [[.islice (G.map u8R) (some c.nodes.length)]]),some (.row 1 [[.int .i64 f.node]]),some (.row 1 [[.int .i64 f.other]]),some (.row 4 [[sl c.nc (c.nodes.map Nd.enc),sl c.mc (c.names.map abv),.nilslice,sl c.oc (c.outs.map aaj)]]),some (.row 2 [[.int .i64 f.node,.int .i64 f.pin]]),some (.row 1 [[.func (.func 92) [] [.ptr 2 0 0,.ptr 4 0 0]]]),some (.row 7 [[sl c.nc (c.nodes.map Nd.enc),sl c.mc (c.names.map abv),.nilslice,sl c.oc (c.outs.map aaj),.nilslice,.func (.func 118) [] [.ptr 6 0 0,.ptr 7 0 0],.func (.func 89) [] []]])],[2,4]):=by
 have h:=bmx c (.row 1 [[.islice (G.map u8R) (some c.nodes.length)]]) (.row 1 [[.int .i64 f.other]]) 92 f.node f.pin hq
 refine akx (by kernel_rfl) (by kernel_rfl) rfl ((acd (sem L.env Mf 91) _ [some (.row 4 [[sl c.nc (c.nodes.map Nd.enc),sl c.mc (c.names.map abv),.nilslice,sl c.oc (c.outs.map aaj)]]),some (.row 5 [[.int .u8 f.model,.int .i64 f.node,.int .i64 f.pin,.int .u8 f.value,.int .i64 f.other]]),some (.row 1 [[.islice (G.map u8R) (some c.nodes.length)]]),some (.row 1 [[.int .i64 f.node]]),some (.row 1 [[.int .i64 f.other]])] (σ:=[2,4]) (by simp +decide only [go_sem]) rfl rfl (by simp +decide only [go_sem]<;>rfl) (by simp +decide only [go_sem]<;>rfl) h).trans ?_)
 simp +decide only [go_sem]<;>rfl
/-- The simulation with a fault: what replaces nets and pins. -/
def am7 (c:Cir) (nets net pin:AV):AObj:=.row 7 [[sl c.nc (c.nodes.map Nd.enc),sl c.mc (c.names.map abv),.nilslice,sl c.oc (c.outs.map aaj),nets,net,pin]]
theorem bd7 (c:Cir) (f:Flt) (hf:FltOk c.nodes f) (G:List Nat) (hG:G.length = c.nodes.length) (hGv:∀ v ∈ G,v ≤ 3):∃ net pin,NetN net (hkF f (ab0 nAlg G f)).net ∧ PinN pin (hkF f (ab0 nAlg G f)).pin ∧
 sem L.env Mf 57 [.agg [sl c.nc (c.nodes.map Nd.enc),sl c.mc (c.names.map abv),.nilslice,sl c.oc (c.outs.map aaj)],.agg [.int .u8 f.model,.int .i64 f.node,.int .i64 f.pin,.int .u8 f.value,.int .i64 f.other],.islice (G.map u8R) (some c.nodes.length)] [] = some (.ptr 0 0 0,[some (am7 c .nilslice net pin)]):=by
 rcases hf.model with hm|hm|hm
 · -- stuck
  have hv:ab0 nAlg G f = f.value:=by unfold ab0;rw [if_pos hm];rfl
  have m0:¬ (f.model:Int) = 2:=by omega
  have m1:¬ (f.model:Int) = 3:=by omega
  have hc:ay5 (.func (.func 93) [] [.iptr [.int .u8 f.model,.int .i64 f.node,.int .i64 f.pin,.int .u8 f.value,.int .i64 f.other]]) f.value:=⟨rfl,fun d H w=>aa3 (by kernel_rfl) (by kernel_rfl) rfl rfl (bf5 w f) rfl⟩
  rw [hv]
  by_cases hq:f.pin < 0
  ·have hat:=bqw c f G hq
   refine ⟨.func (.func 118) [] [.iptr [.int .i64 f.node,.int .i64 f.pin],.iptr [.func (.func 93) [] [.iptr [.int .u8 f.model,.int .i64 f.node,.int .i64 f.pin,.int .u8 f.value,.int .i64 f.other]]]],.func (.func 89) [] [],⟨rfl,rfl,rfl,fun d H n w=>?_⟩,?_,?_⟩
   ·have h1:=aa3 (E:=L.env) (draw:=d) (call:=sem L.env Mf) (H:=H) (g:=118) (fs:=[]) (ar:=[.int .i64 n,.int .u8 w]) (cs:=[.iptr [.int .i64 f.node,.int .i64 f.pin],.iptr [.func (.func 93) [] [.iptr [.int .u8 f.model,.int .i64 f.node,.int .i64 f.pin,.int .u8 f.value,.int .i64 f.other]]]]) (by kernel_rfl) (by kernel_rfl) rfl rfl (bjd n w f.node f.value f.pin _ hc rfl) rfl
    rw [h1]
    have:(if n = f.node then f.value else w) = (hkF f f.value).net n w:=by
     unfold hkF Flt.hitsNet
     have h2:¬ f.model = 2:=by omega
     simp [hq,h2]
    rw [this]
   ·have:(hkF f f.value).pin = fun _ _ w=>w:=by
     funext n p w;unfold hkF Flt.hitsPin
     have:¬ 0 ≤ f.pin:=by omega
     simp [this]
    rw [this];exact bkp
   ·(refine sv Tryz.f57 ?_;simp only [Tryz.f57,gS])
    (repeat first|simp only [ww]|(apply xa;simp +decide only [go_sem,m0,m1,hat];rfl;kernel_rfl))
    refine ahf (vs:=[.ptr 8 0 0]) (by simp +decide only [go_sem]) ?_
    unfold am7
    simp +decide only [go_sem]<;>rfl
  ·have hat:=bqv c f G hq
   refine ⟨.func (.func 117) [] [],.func (.func 119) [] [.iptr [.int .i64 f.node,.int .i64 f.pin],.iptr [.func (.func 93) [] [.iptr [.int .u8 f.model,.int .i64 f.node,.int .i64 f.pin,.int .u8 f.value,.int .i64 f.other]]]],?_,⟨rfl,rfl,rfl,fun d H n p w=>?_⟩,?_⟩
   ·have:(hkF f f.value).net = fun _ w=>w:=by
     funext n w;unfold hkF Flt.hitsNet
     simp [hq]
    rw [this];exact btc
   ·have h1:=aa3 (E:=L.env) (draw:=d) (call:=sem L.env Mf) (H:=H) (g:=119) (fs:=[]) (ar:=[.int .i64 n,.int .i64 p,.int .u8 w]) (cs:=[.iptr [.int .i64 f.node,.int .i64 f.pin],.iptr [.func (.func 93) [] [.iptr [.int .u8 f.model,.int .i64 f.node,.int .i64 f.pin,.int .u8 f.value,.int .i64 f.other]]]]) (by kernel_rfl) (by kernel_rfl) rfl rfl (bqu n p w f.node f.value f.pin _ hc) rfl
    rw [h1]
    have:(if n = f.node ∧ (p:Int) = f.pin then f.value else w) = (hkF f f.value).pin n p w:=by
     unfold hkF Flt.hitsPin
     have:0 ≤ f.pin:=by omega
     simp [this]
    rw [this]
   ·(refine sv Tryz.f57 ?_;simp only [Tryz.f57,gS])
    (repeat first|simp only [ww]|(apply xa;simp +decide only [go_sem,m0,m1,hat];rfl;kernel_rfl))
    refine ahf (vs:=[.ptr 8 0 0]) (by simp +decide only [go_sem]) ?_
    unfold am7
    simp +decide only [go_sem]<;>rfl
 · -- wired
  have hb:=hf.bridge (by omega)
  have m0:(f.model:Int) = 2:=by omega
  obtain ⟨va,hva⟩:∃ v,G[f.node]? = some v:=⟨_,List.getElem?_eq_getElem (by rw [hG];exact hf.node)⟩
  obtain ⟨vb,hvb⟩:∃ v,G[f.other]? = some v:=⟨_,List.getElem?_eq_getElem (by rw [hG];exact hf.other)⟩
  obtain ⟨k,hk⟩:∃ k,k = if f.value = 1 then 7 else 5:=⟨_,rfl⟩
  have hkl:k < 16:=by rw [hk];split<;>omega
  have hv:ab0 nAlg G f = aej k [va,vb]:=by
   have h1:¬ f.model = 0:=by omega
   have h2:¬ f.model = 3:=by omega
   have h3:=hf.value
   have e:∀ k,nAlg.ev k [G.getD f.node nAlg.z,G.getD f.other nAlg.z] = aej k [va,vb]:=fun k=>by
    show aej k (([G.getD f.node 0,G.getD f.other 0]:List Nat).map ac9) = _
    rw [List.getD,hva,List.getD,hvb]
    congr 1
    exact ant (fun v hv=>by simp at hv;rcases hv with rfl|rfl;exact hGv _ (List.mem_of_getElem? hva);exact hGv _ (List.mem_of_getElem? hvb))
   unfold ab0
   rw [if_neg h1,if_neg h2]
   by_cases h4:f.value = 0
   ·rw [if_pos h4,e,hk,if_neg (by omega)]
   ·rw [if_neg h4,e,hk,if_pos (by omega)]
  have hrs:=fun (d:Bool) (H:aa4)=>aa3 (E:=L.env) (draw:=d) (call:=sem L.env Mf) (H:=H) (g:=88) (fs:=[]) (ar:=[.int .u8 f.value]) (cs:=[]) (by kernel_rfl) (by kernel_rfl) rfl rfl (av3 f.value k hk) rfl
  have hrc:=fun (d:Bool) (H:aa4)=>aa3 (E:=L.env) (draw:=d) (call:=sem L.env Mf) (H:=H) (g:=116) (fs:=[]) (ar:=[.int .u8 va,.int .u8 vb]) (cs:=[.iptr [.int .u8 k]]) (by kernel_rfl) (by kernel_rfl) rfl rfl (bph va vb k hkl) rfl
  rw [hv]
  generalize aej k [va,vb] = w0 at hrc ⊢
  have hfn:=hf.node
  have hfo:=hf.other
  refine ⟨.func (.func 90) [] [.iptr [.int .i64 f.node],.iptr [.int .i64 f.other],.iptr [.int .u8 w0]],.func (.func 89) [] [],⟨rfl,rfl,rfl,fun d H n w=>?_⟩,?_,?_⟩
  ·have h1:=aa3 (E:=L.env) (draw:=d) (call:=sem L.env Mf) (H:=H) (g:=90) (fs:=[]) (ar:=[.int .i64 n,.int .u8 w]) (cs:=[.iptr [.int .i64 f.node],.iptr [.int .i64 f.other],.iptr [.int .u8 w0]]) (by kernel_rfl) (by kernel_rfl) rfl rfl (bew n w f.node f.other w0) rfl
   rw [h1]
   have:(if n = f.node ∨ n = f.other then w0 else w) = (hkF f w0).net n w:=by
    unfold hkF Flt.hitsNet
    simp [hb.1,hm]
   rw [this]
  ·have:(hkF f w0).pin = fun _ _ w=>w:=by
    funext n p w;unfold hkF Flt.hitsPin
    simp [hb.1]
   rw [this];exact bkp
  ·(refine sv Tryz.f57 ?_;simp only [Tryz.f57,gS])
   (repeat first|simp only [ww]|(apply xa;simp +decide only [go_sem,m0,hrs,hrc,hva,hvb,hG,hfn,hfo];rfl;kernel_rfl))
   refine ahf (vs:=[.ptr 6 0 0]) (by simp +decide only [go_sem]) ?_
   unfold am7
   simp +decide only [go_sem]<;>rfl
 · -- strong
  have hb:=hf.bridge (by omega)
  have hq:f.pin < 0:=by rw [hb.1];decide
  have m0:¬ (f.model:Int) = 2:=by omega
  have m1:(f.model:Int) = 3:=by omega
  obtain ⟨vb,hvb⟩:∃ v,G[f.other]? = some v:=⟨_,List.getElem?_eq_getElem (by rw [hG];exact hf.other)⟩
  have hv:ab0 nAlg G f = vb:=by
   unfold ab0
   rw [if_neg (by omega),if_pos hm,List.getD,hvb];rfl
  have hat:=bqx c f G hq
  rw [m1] at hat
  have hc:ay5 (.func (.func 92) [] [.iptr [.islice (G.map u8R) (some c.nodes.length)],.iptr [.int .i64 f.other]]) vb:=⟨rfl,fun d H w=>aa3 (by kernel_rfl) (by kernel_rfl) rfl rfl (bal w G f.other vb c.nodes.length hvb hG.symm) rfl⟩
  rw [hv]
  refine ⟨.func (.func 118) [] [.iptr [.int .i64 f.node,.int .i64 f.pin],.iptr [.func (.func 92) [] [.iptr [.islice (G.map u8R) (some c.nodes.length)],.iptr [.int .i64 f.other]]]],.func (.func 89) [] [],⟨rfl,rfl,rfl,fun d H n w=>?_⟩,?_,?_⟩
  ·have h1:=aa3 (E:=L.env) (draw:=d) (call:=sem L.env Mf) (H:=H) (g:=118) (fs:=[]) (ar:=[.int .i64 n,.int .u8 w]) (cs:=[.iptr [.int .i64 f.node,.int .i64 f.pin],.iptr [.func (.func 92) [] [.iptr [.islice (G.map u8R) (some c.nodes.length)],.iptr [.int .i64 f.other]]]]) (by kernel_rfl) (by kernel_rfl) rfl rfl (bjd n w f.node vb f.pin _ hc rfl) rfl
   rw [h1]
   have:(if n = f.node then vb else w) = (hkF f vb).net n w:=by
    unfold hkF Flt.hitsNet
    have h2:¬ f.model = 2:=by omega
    simp [hq,h2]
   rw [this]
  ·have:(hkF f vb).pin = fun _ _ w=>w:=by
    funext n p w;unfold hkF Flt.hitsPin
    have:¬ 0 ≤ f.pin:=by omega
    simp [this]
   rw [this];exact bkp
  ·(refine sv Tryz.f57 ?_;simp only [Tryz.f57,gS])
   (repeat first|simp only [ww]|(apply xa;simp +decide only [go_sem,m0,m1,hat];rfl;kernel_rfl))
   refine ahf (vs:=[.ptr 8 0 0]) (by simp +decide only [go_sem]) ?_
   unfold am7
   simp +decide only [go_sem]<;>rfl
set_option maxHeartbeats 200000000
open Go.Proofs Go.Ax Go.Pc
set_option maxRecDepth 100000
attribute [go_sem] am7
theorem bq8 {m:Nat} {d:AV → Option AV} (l:List Nat):ait m d (l.map u8R) = some (l.map u8R):=aau m d (ach l)
/-- What a node av7, with replaced pins. -/
theorem bck (c:Cir) (hc:c.wf) (net pin:AV) (g:Hk Nat) (h1:refs net = []) (h2:PinN pin g.pin) (nets:List Nat) (hl:nets.length = c.nodes.length) (n:Nat) (hn:n < c.nodes.length) :
 sem L.env Mf 95 [.ptr 0 0 0,.int .i64 n] [some (am7 c (.slice 1 0 c.nodes.length (some c.nodes.length)) net pin),some (.row 1 (nets.map u8R))] = some (sl none ((aap nAlg c.nodes g nets n).map u8R),[some (am7 c (.slice 1 0 c.nodes.length (some c.nodes.length)) net pin),some (.row 1 (nets.map u8R))]):=by
 have hnl:=hc.len
 obtain ⟨x,hx⟩:∃ x,c.nodes[n]? = some x:=⟨_,List.getElem?_eq_getElem hn⟩
 have hxm:=List.mem_of_getElem? hx
 have hil:=hc.insl hxm
 have hrl:(aap nAlg c.nodes g nets n).length = x.ins.length:=by rw [adx,abk hx]
 have h3:=h2.flat
 have e1:∀ π,ren π net = net:=fun π=>abc π _ h1
 have e2:∀ π,ren π pin = pin:=fun π=>abc π _ h3
 have hpc:=h2.call
 unfold am7
 (refine sv Tryz.f95 ?_;simp only [Tryz.f95,gS])
 (repeat first|simp only [ww]|(apply xa;simp +decide only [go_sem,hx,hn];rfl;kernel_rfl))
 refine ab3 (σ:=Nat) kp95_0 (fun i=>[(0,.ptr 0 0 0),(1,.int .i64 n),(5,grV 2 (((aap nAlg c.nodes g nets n).take i).map u8R)),(16,sl x.c (x.ins.map aaj)),(17,.int .i64 x.ins.length),(18,.int .i64 i)])
  (fun i=>[some (.row 7 [[sl c.nc (c.nodes.map Nd.enc),sl c.mc (c.names.map abv),.nilslice,sl c.oc (c.outs.map aaj),.slice 1 0 c.nodes.length (some c.nodes.length),net,pin]]),some (.row 1 (nets.map u8R))] ++ grH 1 (((aap nAlg c.nodes g nets n).take i).map u8R)) (fun i=>x.ins.length - i) (fun i=>i ≤ x.ins.length) 0 ?_ (Nat.zero_le _) ?_
 ·(simp +decide only [go_sem,aa1,aa0,List.take_zero,List.map_nil,aaf,aag,h1,h3,e1,e2,acl,acz]<;>rfl)
 ·intro i hi
  by_cases hlt:i < x.ins.length
  ·obtain ⟨m,hm⟩:∃ m,x.ins[i]? = some m:=⟨_,List.getElem?_eq_getElem hlt⟩
   have hmn:=hc.ins x hxm m (List.mem_of_getElem? hm)
   obtain ⟨w,hw⟩:∃ w,nets[m]? = some w:=⟨_,List.getElem?_eq_getElem (by omega)⟩
   have c1:(i:Int) < x.ins.length:=by omega
   have hwi:=wI1 (n:=i) (by omega)
   have hs:=ale (A:=nAlg) (h:=g) (nets:=nets) (by rw [abk hx];exact hm) hw
   have htl:((aap nAlg c.nodes g nets n).take i).length = i:=by rw [List.length_take];omega
   generalize (aap nAlg c.nodes g nets n).take i = T at hs htl
   cases T with
   | nil=>
    (repeat first|simp only [ww]|(apply xa;simp +decide only [go_sem,c1,hlt,hm,hmn,hw,hwi,hpc,hl,List.map_nil,aaf,aag];rfl;kernel_rfl))
    refine ac6 (i + 1) ?_ (by omega) (by omega)
    rw [hs]
    (simp +decide only [go_sem,aa1,aa0,List.map_cons,List.map_nil,List.nil_append,aa5,aa6,List.length_nil,h1,h3,e1,e2,acl,acz]<;>rfl)
   | cons a r=>
    simp only [List.length_cons] at htl
    have hrm:r.length + 1 + 1 ≤ 1000000000:=by omega
    (repeat first|simp only [ww]|(apply xa;simp +decide only [go_sem,c1,hlt,hm,hmn,hw,hwi,hpc,hl,List.map_cons,aa5,aa6,hrm,List.length_cons];rfl;kernel_rfl))
    refine ac6 (i + 1) ?_ (by omega) (by omega)
    rw [hs]
    (simp +decide only [go_sem,aa1,aa0,List.map_cons,List.map_nil,List.cons_append,aa5,aa6,List.length_cons,h1,h3,e1,e2,acl,acz]<;>rfl)
  ·obtain rfl:i = x.ins.length:=by omega
   have c1:¬ (x.ins.length:Int) < x.ins.length:=by omega
   rw [List.take_of_length_le (by omega)]
   generalize aap nAlg c.nodes g nets n = T
   cases T with
   | nil=>
    (repeat first|simp only [ww]|(apply xa;simp +decide only [go_sem,c1,List.map_nil,aaf,aag];rfl;kernel_rfl))
    (apply fqb;simp +decide only [go_sem,acz,List.map_nil,e1,e2]<;>rfl)
   | cons a r=>
    (repeat first|simp only [ww]|(apply xa;simp +decide only [go_sem,c1,List.map_cons,aa5,aa6];rfl;kernel_rfl))
    (apply fqb;simp +decide only [go_sem,acz,bq8,List.map_cons,af8,e1,e2]<;>rfl)
theorem axn (c:Cir) (net pin:AV) (h1:refs net = []) (h2:refs pin = []):aas (some (am7 c (.slice 1 0 c.nodes.length (some c.nodes.length)) net pin)) = [1]:=by simp +decide only [go_sem,h1,h2]
theorem asa (c:Cir) (net pin:AV) (h1:refs net = []) (h2:refs pin = []) (π:Nat → Option Nat) (hπ:π 1 = some 1):aat π (am7 c (.slice 1 0 c.nodes.length (some c.nodes.length)) net pin) = am7 c (.slice 1 0 c.nodes.length (some c.nodes.length)) net pin:=by
 have e1:∀ π,ren π net = net:=fun π=>abc π _ h1
 have e2:∀ π,ren π pin = pin:=fun π=>abc π _ h2
 simp +decide only [go_sem,e1,e2,hπ]
theorem ao7 {d:Bool} (R:aa4) (c:Cir) (hc:c.wf) (net pin:AV) (g:Hk Nat) (h1:refs net = []) (h2:PinN pin g.pin) (nets:List Nat) (hl:nets.length = c.nodes.length) (n:Nat) (hn:n < c.nodes.length) :
 aaa L.env d (sem L.env Mf) (.func (.func 95) [] []) [.ptr 0 0 0,.int .i64 n] (some (am7 c (.slice 1 0 c.nodes.length (some c.nodes.length)) net pin) :: some (.row 1 (nets.map u8R)) :: R) = some (sl none ((aap nAlg c.nodes g nets n).map u8R),some (am7 c (.slice 1 0 c.nodes.length (some c.nodes.length)) net pin) :: some (.row 1 (nets.map u8R)) :: R,[0,1]):=
 axv (by kernel_rfl) (by kernel_rfl) rfl rfl (axn c net pin h1 h2.flat) (aad (ach nets)) rfl (asa c net pin h1 h2.flat _ rfl) (fun n=>asa c net pin h1 h2.flat _ rfl) (FlatO.row (ach nets)) (bck c hc net pin g h1 h2 nets hl n hn) (ac2 _ _)
theorem bgs (c:Cir) (hc:c.wf) (net pin:AV) (g:Hk Nat) (h1:refs net = []) (h2:PinN pin g.pin) (nets:List Nat) (hl:nets.length = c.nodes.length) (n:Nat) (hn:n < c.nodes.length) (hv:∀ v ∈ aap nAlg c.nodes g nets n,v ≤ 3) :
 sem L.env Mf 94 [.ptr 0 0 0,.int .i64 n] [some (am7 c (.slice 1 0 c.nodes.length (some c.nodes.length)) net pin),some (.row 1 (nets.map u8R))] = some (.int .u8 (nAlg.ev (aaq c.nodes n) (aap nAlg c.nodes g nets n):Nat),[some (am7 c (.slice 1 0 c.nodes.length (some c.nodes.length)) net pin),some (.row 1 (nets.map u8R))]):=by
 have hnl:=hc.len
 obtain ⟨x,hx⟩:∃ x,c.nodes[n]? = some x:=⟨_,List.getElem?_eq_getElem hn⟩
 have hxm:=List.mem_of_getElem? hx
 have hil:=hc.insl hxm
 have k14:=hc.kind x hxm
 have hrl:(aap nAlg c.nodes g nets n).length = x.ins.length:=by rw [adx,abk hx]
 have h3:=h2.flat
 have e1:∀ π,ren π net = net:=fun π=>abc π _ h1
 have e2:∀ π,ren π pin = pin:=fun π=>abc π _ h3
 have hrd:=fun (d:Bool)=>ao7 (d:=d) [] c hc net pin g h1 h2 nets hl n hn
 have hev:=fun (d:Bool)=>ayy (V:=sl none ((aap nAlg c.nodes g nets n).map u8R)) (.imm none) (by omega) (d:=d) x.kind (by omega)
 have he:nAlg.ev (aaq c.nodes n) (aap nAlg c.nodes g nets n) = aej x.kind (aap nAlg c.nodes g nets n):=by
  rw [ab7 hx];show aej x.kind ((aap nAlg c.nodes g nets n).map ac9) = _;rw [ant hv]
 rw [he]
 have hev:∀ (d:Bool) (H:aa4),aaa L.env d (sem L.env Mf) (.func (.func 86) [] []) [.int .u8 x.kind,sl none ((aap nAlg c.nodes g nets n).map u8R)] H = some (.int .u8 (aej x.kind (aap nAlg c.nodes g nets n):Nat),H,[]):=fun d H=>
  aa3 (by kernel_rfl) (by kernel_rfl) rfl (by simp only [List.nil_append,List.append_nil,go_sem]) (ary x.kind (by omega) _ _ _ (.imm none) (by omega)) rfl
 generalize aej x.kind (aap nAlg c.nodes g nets n) = w at hev ⊢
 generalize (aap nAlg c.nodes g nets n).map u8R = R at hrd hev
 unfold am7 at hrd ⊢
 (refine sv Tryz.f94 ?_;simp only [Tryz.f94,gS])
 (repeat first|simp only [ww]|(apply xa;simp +decide only [go_sem,hx,hn,hrd,hev];rfl;kernel_rfl))
 (apply fqb;simp +decide only [go_sem,acz,e1,e2]<;>rfl)
theorem az4 {d:Bool} (R:aa4) (c:Cir) (hc:c.wf) (net pin:AV) (g:Hk Nat) (h1:refs net = []) (h2:PinN pin g.pin) (nets:List Nat) (hl:nets.length = c.nodes.length) (n:Nat) (hn:n < c.nodes.length) (hv:∀ v ∈ aap nAlg c.nodes g nets n,v ≤ 3) :
 aaa L.env d (sem L.env Mf) (.func (.func 94) [.ptr 0 0 0] []) [.int .i64 n] (some (am7 c (.slice 1 0 c.nodes.length (some c.nodes.length)) net pin) :: some (.row 1 (nets.map u8R)) :: R) = some (.int .u8 (nAlg.ev (aaq c.nodes n) (aap nAlg c.nodes g nets n):Nat),some (am7 c (.slice 1 0 c.nodes.length (some c.nodes.length)) net pin) :: some (.row 1 (nets.map u8R)) :: R,[0,1]):=
 axv (by kernel_rfl) (by kernel_rfl) rfl rfl (axn c net pin h1 h2.flat) (aad (ach nets)) rfl (asa c net pin h1 h2.flat _ rfl) (fun n=>asa c net pin h1 h2.flat _ rfl) (FlatO.row (ach nets)) (bgs c hc net pin g h1 h2 nets hl n hn hv) rfl
end Go.ZInst
