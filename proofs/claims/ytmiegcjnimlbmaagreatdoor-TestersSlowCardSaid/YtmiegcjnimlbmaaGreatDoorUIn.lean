/- Part of a proof. No condition. -/
import Derived.Test.YtmiegcjnimlbmaaGreatDoorULg
import Derived.Test.YtmiegcjnimlbmaaGreatDoorAxD
import Derived.Test.YtmiegcjnimlbmaaGreatDoorPcB
set_option linter.unusedSimpArgs false
set_option linter.unusedVariables false
namespace Go.UInst
open Go.Proofs Go.Ax Go.Pc
set_option maxRecDepth 100000
structure NetN(v:AV)(g:Nat→Nat→Nat):Prop where
 flat:refs v=[]
 sto:v.storable=true
 nn:a8a v=some v
 call:∀(d:Bool) (H:a02) (n w:Nat),a0a L.env d (sem L.env Mf) v [.int .i64 n,.int .u8 w] H=some (.int .u8 (g n w),H,[])
structure PinN(v:AV)(g:Nat→Nat→Nat→Nat):Prop where
 flat:refs v=[]
 sto:v.storable=true
 nn:a8a v=some v
 call:∀(d:Bool) (H:a02) (n p w:Nat),a0a L.env d (sem L.env Mf) v [.int .i64 n,.int .i64 p,.int .u8 w] H=some (.int .u8 (g n p w),H,[])
theorem d3w(n:Int)(w:Nat):sem L.env Mf 155 [.int .i64 n,.int .u8 w] []=some (.int .u8 w,[]):=by
 (refine sv Tryz.f155 ?_;simp only[Tryz.f155,gS])
 (repeat first|simp only[ww]|(apply xa;simp+decide only[go_sem];rfl;kernel_rfl))
 (apply fqb;simp+decide only[go_sem]<;>rfl)
theorem d3y(n p:Int)(w:Nat):sem L.env Mf 156 [.int .i64 n,.int .i64 p,.int .u8 w] []=some (.int .u8 w,[]):=by
 (refine sv Tryz.f156 ?_;simp only[Tryz.f156,gS])
 (repeat first|simp only[ww]|(apply xa;simp+decide only[go_sem];rfl;kernel_rfl))
 (apply fqb;simp+decide only[go_sem]<;>rfl)
theorem e7n:NetN (.func (.func 155) [] []) (λ_ w=>w):=⟨rfl,rfl,rfl,λd H n w=>a04 (by kernel_rfl) (by kernel_rfl) rfl rfl (d3w n w) rfl⟩
theorem e7s:PinN (.func (.func 156) [] []) (λ_ _ w=>w):=⟨rfl,rfl,rfl,λd H n p w=>a04 (by kernel_rfl) (by kernel_rfl) rfl rfl (d3y n p w) rfl⟩
theorem nI{a b:Nat}(h:a≠b):¬(a:Int)=b:=by omega
theorem e2n(a b k:Nat)(hk:k<16):sem L.env Mf 154 [.int .u8 a,.int .u8 b,.iptr [.int .u8 k]] []=some (.int .u8 (a3v k [a,b]:Nat),[]):=by
 have hev:=λ(d:Bool)=>b9t (d:=d) (H:=[some (.row 1 [[.int .u8 a],[.int .u8 b]])]) (b:=0) k hk [a,b] (by simp) (some 2) [[.int .u8 a],[.int .u8 b]] (λr hr=>by simp at hr;rcases hr with rfl|rfl<;>rfl) rfl rfl (m:=2) rfl;generalize a3v k [a,b]=w at hev
 (refine sv Tryz.f154 ?_;simp only[Tryz.f154,gS])
 (repeat first|simp only[ww]|(apply xa;simp+decide only[go_sem,hev];rfl;kernel_rfl))
 (apply fqb;simp+decide only[go_sem]<;>rfl)
theorem c1l(v:Nat)(k:Nat)(hk:k=if v=1 then 7 else 5):sem L.env Mf 117 [.int .u8 v] []=some (.func (.func 154) [] [.iptr [.int .u8 k]],[]):=by
 subst hk;by_cases h:v=1
 ·have h1:(v:Int)=1:=by omega
  rw[if_pos h]
  (refine sv Tryz.f117 ?_;simp only[Tryz.f117,gS])
  (repeat first|simp only[ww]|(apply xa;simp+decide only[go_sem,h1];rfl;kernel_rfl))
  (apply fqb;simp+decide only[go_sem]<;>rfl)
 ·have h1:¬(v:Int)=1:=by omega
  rw[if_neg h]
  (refine sv Tryz.f117 ?_;simp only[Tryz.f117,gS])
  (repeat first|simp only[ww]|(apply xa;simp+decide only[go_sem,h1];rfl;kernel_rfl))
  (apply fqb;simp+decide only[go_sem]<;>rfl)
def b15(c:Cir)(nets net pin:AV):AObj:=.row 7 [[sl c.nc (c.nodes.map Nd.enc),sl c.mc (c.names.map a1h),.nilslice,sl c.oc (c.outs.map a0h),nets,net,pin]]
set_option maxHeartbeats 200000000
attribute [go_sem] b15
theorem e3w{m:Nat}{d:AV→Option AV}(l:List Nat):a9a m d (l.map u8R)=some (l.map u8R):=a17 m d (a2e l)
theorem c9k(c:Cir)(hc:c.wf)(net pin:AV)(g:Hk Nat)(h1:refs net=[])(h2:PinN pin g.pin)(nets:List Nat)(hl:nets.length=c.nodes.length)(n:Nat)(hn:n<c.nodes.length) :
 sem L.env Mf 160 [.ptr 0 0 0,.int .i64 n] [some (b15 c (.slice 1 0 c.nodes.length (some c.nodes.length)) net pin),some (.row 1 (nets.map u8R))]=some (sl none ((a1k nAlg c.nodes g nets n).map u8R),[some (b15 c (.slice 1 0 c.nodes.length (some c.nodes.length)) net pin),some (.row 1 (nets.map u8R))]):=by
 have hnl:=hc.len;obtain⟨x,hx⟩:∃x,c.nodes[n]?=some x:=⟨_,z9e hn⟩
 have hxm:=List.mem_of_getElem? hx;have hil:=hc.insl hxm;have hrl:(a1k nAlg c.nodes g nets n).length=x.ins.length:=by rw[a8k,a22 hx]
 have h3:=h2.flat;have e1:∀π,ren π net=net:=λπ=>a0d π _ h1;have e2:∀π,ren π pin=pin:=λπ=>a0d π _ h3;have hpc:=h2.call;unfold b15
 (refine sv Tryz.f160 ?_;simp only[Tryz.f160,gS])
 (repeat first|simp only[ww]|(apply xa;simp+decide only[go_sem,hx,hn];rfl;kernel_rfl))
 refine a0p (σ:=Nat) kp160_0 (λi=>[(0,.ptr 0 0 0),(1,.int .i64 n),(5,grV 2 (((a1k nAlg c.nodes g nets n).take i).map u8R)),(16,sl x.c (x.ins.map a0h)),(17,.int .i64 x.ins.length),(18,.int .i64 i)])
  (λi=>[some (.row 7 [[sl c.nc (c.nodes.map Nd.enc),sl c.mc (c.names.map a1h),.nilslice,sl c.oc (c.outs.map a0h),.slice 1 0 c.nodes.length (some c.nodes.length),net,pin]]),some (.row 1 (nets.map u8R))]++grH 1 (((a1k nAlg c.nodes g nets n).take i).map u8R)) (λi=>x.ins.length-i) (λi=>i≤x.ins.length) 0 ?_ (Nat.zero_le _) ?_
 ·(simp+decide only[go_sem,a03,a00,List.take_zero,List.map_nil,a0t,a0u,h1,h3,e1,e2,a2m,a2y]<;>rfl)
 ·intro i hi;by_cases hlt:i<x.ins.length
  ·obtain⟨m,hm⟩:∃m,x.ins[i]?=some m:=⟨_,z9e hlt⟩
   have hmn:=hc.ins x hxm m (List.mem_of_getElem? hm);obtain⟨w,hw⟩:∃w,nets[m]?=some w:=⟨_,z9e (by omega)⟩
   have c1:(i:Int)<x.ins.length:=by omega
   have hwi:=wI1 (n:=i) (by omega);have hs:=b5n (A:=nAlg) (h:=g) (nets:=nets) (by rw[a22 hx];exact hm) hw;have htl:((a1k nAlg c.nodes g nets n).take i).length=i:=by rw[List.length_take];omega
   generalize(a1k nAlg c.nodes g nets n).take i=T at hs htl;cases T with
   |nil=>
    (repeat first|simp only[ww]|(apply xa;simp+decide only[go_sem,c1,hlt,hm,hmn,hw,hwi,hpc,hl,List.map_nil,a0t,a0u];rfl;kernel_rfl))
    refine a27 (i+1) ?_ (by omega) (by omega);rw[hs]
    (simp+decide only[go_sem,a03,a00,List.map_cons,List.map_nil,List.nil_append,a0b,a0c,List.length_nil,h1,h3,e1,e2,a2m,a2y]<;>rfl)
   |cons a r=>
    simp only[List.length_cons]at htl;have hrm:r.length+1+1≤1000000000:=by omega
    (repeat first|simp only[ww]|(apply xa;simp+decide only[go_sem,c1,hlt,hm,hmn,hw,hwi,hpc,hl,List.map_cons,a0b,a0c,hrm,List.length_cons];rfl;kernel_rfl))
    refine a27 (i+1) ?_ (by omega) (by omega);rw[hs]
    (simp+decide only[go_sem,a03,a00,List.map_cons,List.map_nil,List.cons_append,a0b,a0c,List.length_cons,h1,h3,e1,e2,a2m,a2y]<;>rfl)
  ·obtain rfl:i=x.ins.length:=by omega
   have c1:¬(x.ins.length:Int)<x.ins.length:=by omega
   rw[List.take_of_length_le (by omega)];generalize a1k nAlg c.nodes g nets n=T;cases T with
   |nil=>
    (repeat first|simp only[ww]|(apply xa;simp+decide only[go_sem,c1,List.map_nil,a0t,a0u];rfl;kernel_rfl))
    (apply fqb;simp+decide only[go_sem,a2y,List.map_nil,e1,e2]<;>rfl)
   |cons a r=>
    (repeat first|simp only[ww]|(apply xa;simp+decide only[go_sem,c1,List.map_cons,a0b,a0c];rfl;kernel_rfl))
    (apply fqb;simp+decide only[go_sem,a2y,e3w,List.map_cons,b97,e1,e2]<;>rfl)
theorem c43(c:Cir)(net pin:AV)(h1:refs net=[])(h2:refs pin=[]):a0y (some (b15 c (.slice 1 0 c.nodes.length (some c.nodes.length)) net pin))=[1]:=by simp+decide only[go_sem,h1,h2]
theorem b8b(c:Cir)(net pin:AV)(h1:refs net=[])(h2:refs pin=[])(π:Nat→Option Nat)(hπ:π 1=some 1):a0f π (b15 c (.slice 1 0 c.nodes.length (some c.nodes.length)) net pin)=b15 c (.slice 1 0 c.nodes.length (some c.nodes.length)) net pin:=by have e1:∀π,ren π net=net:=λπ=>a0d π _ h1;have e2:∀π,ren π pin=pin:=λπ=>a0d π _ h2;simp+decide only[go_sem,e1,e2,hπ]
theorem b3o{d:Bool}(R:a02)(c:Cir)(hc:c.wf)(net pin:AV)(g:Hk Nat)(h1:refs net=[])(h2:PinN pin g.pin)(nets:List Nat)(hl:nets.length=c.nodes.length)(n:Nat)(hn:n<c.nodes.length) :
 a0a L.env d (sem L.env Mf) (.func (.func 160) [] []) [.ptr 0 0 0,.int .i64 n] (some (b15 c (.slice 1 0 c.nodes.length (some c.nodes.length)) net pin)::some (.row 1 (nets.map u8R))::R)=some (sl none ((a1k nAlg c.nodes g nets n).map u8R),some (b15 c (.slice 1 0 c.nodes.length (some c.nodes.length)) net pin)::some (.row 1 (nets.map u8R))::R,[0,1]):=
 c47 (by kernel_rfl) (by kernel_rfl) rfl rfl (c43 c net pin h1 h2.flat) (a0m (a2e nets)) rfl (b8b c net pin h1 h2.flat _ rfl) (λn=>b8b c net pin h1 h2.flat _ rfl) (FlatO.row (a2e nets)) (c9k c hc net pin g h1 h2 nets hl n hn) (a1b _ _)
theorem d41(c:Cir)(hc:c.wf)(net pin:AV)(g:Hk Nat)(h1:refs net=[])(h2:PinN pin g.pin)(nets:List Nat)(hl:nets.length=c.nodes.length)(n:Nat)(hn:n<c.nodes.length)(hv:∀v∈a1k nAlg c.nodes g nets n,v≤3) :
 sem L.env Mf 159 [.ptr 0 0 0,.int .i64 n] [some (b15 c (.slice 1 0 c.nodes.length (some c.nodes.length)) net pin),some (.row 1 (nets.map u8R))]=some (.int .u8 (nAlg.ev (a0x c.nodes n) (a1k nAlg c.nodes g nets n):Nat),[some (b15 c (.slice 1 0 c.nodes.length (some c.nodes.length)) net pin),some (.row 1 (nets.map u8R))]):=by
 have hnl:=hc.len;obtain⟨x,hx⟩:∃x,c.nodes[n]?=some x:=⟨_,z9e hn⟩
 have hxm:=List.mem_of_getElem? hx;have hil:=hc.insl hxm;have k14:=hc.kind x hxm;have hrl:(a1k nAlg c.nodes g nets n).length=x.ins.length:=by rw[a8k,a22 hx]
 have h3:=h2.flat;have e1:∀π,ren π net=net:=λπ=>a0d π _ h1;have e2:∀π,ren π pin=pin:=λπ=>a0d π _ h3;have hrd:=λ(d:Bool)=>b3o (d:=d) [] c hc net pin g h1 h2 nets hl n hn;have hev:=λ(d:Bool)=>c5j (V:=sl none ((a1k nAlg c.nodes g nets n).map u8R)) (.imm none) (by omega) (d:=d) x.kind (by omega);have he:nAlg.ev (a0x c.nodes n) (a1k nAlg c.nodes g nets n)=a3v x.kind (a1k nAlg c.nodes g nets n):=by rw[a1e hx];show a3v x.kind ((a1k nAlg c.nodes g nets n).map a4k)=_;rw[b9o hv]
 rw[he];have hev:∀(d:Bool) (H:a02),a0a L.env d (sem L.env Mf) (.func (.func 62) [] []) [.int .u8 x.kind,sl none ((a1k nAlg c.nodes g nets n).map u8R)] H=some (.int .u8 (a3v x.kind (a1k nAlg c.nodes g nets n):Nat),H,[]):=λd H=>a04 (by kernel_rfl) (by kernel_rfl) rfl (by simp only[List.nil_append,List.append_nil,go_sem]) (b7q x.kind (by omega) _ _ _ (.imm none) (by omega)) rfl;generalize a3v x.kind (a1k nAlg c.nodes g nets n)=w at hev⊢;generalize(a1k nAlg c.nodes g nets n).map u8R=R at hrd hev;unfold b15 at hrd⊢
 (refine sv Tryz.f159 ?_;simp only[Tryz.f159,gS])
 (repeat first|simp only[ww]|(apply xa;simp+decide only[go_sem,hx,hn,hrd,hev];rfl;kernel_rfl))
 (apply fqb;simp+decide only[go_sem,a2y,e1,e2]<;>rfl)
theorem c5o{d:Bool}(R:a02)(c:Cir)(hc:c.wf)(net pin:AV)(g:Hk Nat)(h1:refs net=[])(h2:PinN pin g.pin)(nets:List Nat)(hl:nets.length=c.nodes.length)(n:Nat)(hn:n<c.nodes.length)(hv:∀v∈a1k nAlg c.nodes g nets n,v≤3) :
 a0a L.env d (sem L.env Mf) (.func (.func 159) [.ptr 0 0 0] []) [.int .i64 n] (some (b15 c (.slice 1 0 c.nodes.length (some c.nodes.length)) net pin)::some (.row 1 (nets.map u8R))::R)=some (.int .u8 (nAlg.ev (a0x c.nodes n) (a1k nAlg c.nodes g nets n):Nat),some (b15 c (.slice 1 0 c.nodes.length (some c.nodes.length)) net pin)::some (.row 1 (nets.map u8R))::R,[0,1]):=
 c47 (by kernel_rfl) (by kernel_rfl) rfl rfl (c43 c net pin h1 h2.flat) (a0m (a2e nets)) rfl (b8b c net pin h1 h2.flat _ rfl) (λn=>b8b c net pin h1 h2.flat _ rfl) (FlatO.row (a2e nets)) (d41 c hc net pin g h1 h2 nets hl n hn hv) rfl
def c6g(c:Cir)(ord:List Nat)(g:Hk Nat)(p:Pat):List Nat:=c5b nAlg c.nodes g ord (kinds c.nodes 0) (kinds c.nodes 14) p.ins p.sts
theorem d8t(c:Cir)(hc:c.wf)(hO:c.outs≠[])(p:Pat)(hp:PatOk c.nodes p)(ord:List Nat)(hord:OrdOf c ord)(net pin:AV)(g:Hk Nat)(h1:NetN net g.net)(h2:PinN pin g.pin)(hg:d6v g) :
 sem L.env Mf 120 [.ptr 0 0 0,.agg [sl p.ic (p.ins.map u8R),sl p.sc (p.sts.map u8R)]] [some (b15 c .nilslice net pin)]=some (a9r (a14 c.outs (c6g c ord g p)) (b0p c.nodes g (c6g c ord g p) (kinds c.nodes 14)),[some (b15 c .junk net pin)]):=by
 have hnl:=hc.len;have hol:=hc.outl;have hrm:c.nodes.length≤1000000000:=by omega
 obtain⟨r0,e3⟩:=a4f (kinds c.nodes 0);obtain⟨r1,e4⟩:=a4f (kinds c.nodes 14);have hk0:=a3r c.nodes 0;have hk14:=a3r c.nodes 14;have hi:=λ(d:Bool) H=>a3w (d:=d) H c (by omega);have hs:=λ(d:Bool) H=>a5n (d:=d) H c (by omega);rw[e3]at hi;rw[e4]at hs;have ho:=hord.call;simp only[Cir.enc]at hi hs ho;have hor:∀n∈ord,n<c.nodes.length:=λn hn=>by have:=hord.perm.mem_iff.1 hn;simpa using this
 have hordl:ord.length=c.nodes.length:=by rw[hord.perm.length_eq];simp
 have hvi:=hp.ins;have hvs:=hp.sts;have n3:=h1.flat;have p3:=h2.flat;have n4:=h1.sto;have p4:=h2.sto;have e1:∀π,ren π net=net:=λπ=>a0d π _ n3;have e2:∀π,ren π pin=pin:=λπ=>a0d π _ p3;have hnc:=h1.call;have hB:c6g c ord g p=ord.foldl (Pc.stepG nAlg c.nodes g) (a1u (a1u (List.replicate c.nodes.length 0) (kinds c.nodes 0) p.ins) (kinds c.nodes 14) p.sts):=rfl;rw[hB];have hrp:(List.replicate c.nodes.length 0).map u8R=List.replicate c.nodes.length [AV.int .u8 0]:=by rw[List.map_replicate];rfl
 have hN1v:∀v∈a1u (a1u (List.replicate c.nodes.length 0) (kinds c.nodes 0) p.ins) (kinds c.nodes 14) p.sts,v≤3:=b3e _ _ _ (b3e _ _ _ (λv hv=>by rw[List.eq_of_mem_replicate hv];omega) hp.inv) hp.stv
 suffices hss:∃r:AV×a02,(r=(a9r (a14 c.outs (ord.foldl (Pc.stepG nAlg c.nodes g) (a1u (a1u (List.replicate c.nodes.length 0) (kinds c.nodes 0) p.ins) (kinds c.nodes 14) p.sts))) (b0p c.nodes g (ord.foldl (Pc.stepG nAlg c.nodes g) (a1u (a1u (List.replicate c.nodes.length 0) (kinds c.nodes 0) p.ins) (kinds c.nodes 14) p.sts)) (kinds c.nodes 14)),[some (b15 c .junk net pin)]))∧sem L.env Mf 120 [.ptr 0 0 0,.agg [sl p.ic (p.ins.map u8R),sl p.sc (p.sts.map u8R)]] [some (b15 c .nilslice net pin)]=some r by obtain⟨r,rfl,h3⟩:=hss;exact h3
 unfold b15
 (refine svE Tryz.f120 ?_;simp only[Tryz.f120,gS])
 (repeat first|simp only[ww]|(apply xa;simp+decide only[go_sem,hrm,hs,hi,n4,p4];rfl;kernel_rfl))
 refine a0p (σ:=Nat) kp120_0 (λi=>[(0,.ptr 0 0 0),(3,.ptr 2 0 0),(4,.ptr 3 0 0),(5,sl r1 ((kinds c.nodes 14).map a0h)),(41,sl r0 ((kinds c.nodes 0).map a0h)),(42,.int .i64 (kinds c.nodes 0).length),(43,.int .i64 i)])
  (λi=>[some (.row 7 [[sl c.nc (c.nodes.map Nd.enc),sl c.mc (c.names.map a1h),.nilslice,sl c.oc (c.outs.map a0h),.slice 1 0 c.nodes.length (some c.nodes.length),net,pin]]),some (.row 1 ((a1u (List.replicate c.nodes.length 0) ((kinds c.nodes 0).take i) (p.ins.take i)).map u8R)),some (.row 2 [[sl p.ic (p.ins.map u8R),sl p.sc (p.sts.map u8R)]]),some (.row 2 [[.nilslice,.nilslice]])]) (λi=>(kinds c.nodes 0).length-i) (λi=>i≤(kinds c.nodes 0).length) 0 ?_ (Nat.zero_le _) ?_
 ·rw[List.take_zero,List.take_zero,show a1u (List.replicate c.nodes.length 0) [] []=(List.replicate c.nodes.length 0)from rfl,hrp]
  (simp+decide only[go_sem,a03,a00,a2y,a2m,n3,p3,e1,e2]<;>rfl)<;>rfl
 ·intro i hi';have hll:=a4d ((kinds c.nodes 0).take i) (p.ins.take i) (List.replicate c.nodes.length 0);rw[List.length_replicate]at hll;by_cases hlt:i<(kinds c.nodes 0).length
  ·obtain⟨n,hn⟩:∃n,(kinds c.nodes 0)[i]?=some n:=⟨_,z9e hlt⟩
   obtain⟨w,hw⟩:∃w,p.ins[i]?=some w:=⟨_,z9e (by omega)⟩
   have hnn:=(a6p hn).1;have hst:=a8q (nets:=(List.replicate c.nodes.length 0)) hn hw;have c1:(i:Int)<(kinds c.nodes 0).length:=by omega
   have hwi:=wI1 (n:=i) (by omega);have hiv:i<p.ins.length:=by omega
   generalize a1u (List.replicate c.nodes.length 0) ((kinds c.nodes 0).take i) (p.ins.take i)=N at hst hll;obtain⟨w0,hw0⟩:∃w,N[n]?=some w:=⟨_,z9e (by omega)⟩
   have hsR:(N.map u8R).set n [AV.int .u8 w]=(N.set n w).map u8R:=by rw[List.map_set];rfl
   (repeat first|simp only[ww]|(apply xa;simp+decide only[go_sem,c1,hlt,hn,hw,hnn,hwi,hiv,hll,hw0,hsR];rfl;kernel_rfl))
   refine a27 (i+1) ?_ (by omega) (by omega);rw[hst]
   (simp+decide only[go_sem,a03,a00,a2y,a2m,n3,p3,e1,e2]<;>rfl)<;>rfl
  have hie:i=(kinds c.nodes 0).length:=by omega
  subst hie;have c1:¬((kinds c.nodes 0).length:Int)<(kinds c.nodes 0).length:=by omega
  rw[List.take_length,List.take_of_length_le (by omega)]at hll⊢;generalize a1u (List.replicate c.nodes.length 0) (kinds c.nodes 0) p.ins=N0 at hll hN1v⊢;have hNl:=hll;clear hll
  (repeat first|simp only[ww]|(apply xa;simp+decide only[go_sem,c1];rfl;kernel_rfl))
  refine a0p (σ:=Nat) kp120_2 (λi=>[(0,.ptr 0 0 0),(3,.ptr 2 0 0),(4,.ptr 3 0 0),(5,sl r1 ((kinds c.nodes 14).map a0h)),(60,sl r1 ((kinds c.nodes 14).map a0h)),(61,.int .i64 (kinds c.nodes 14).length),(62,.int .i64 i)])
   (λi=>[some (.row 7 [[sl c.nc (c.nodes.map Nd.enc),sl c.mc (c.names.map a1h),.nilslice,sl c.oc (c.outs.map a0h),.slice 1 0 c.nodes.length (some c.nodes.length),net,pin]]),some (.row 1 ((a1u N0 ((kinds c.nodes 14).take i) (p.sts.take i)).map u8R)),some (.row 2 [[sl p.ic (p.ins.map u8R),sl p.sc (p.sts.map u8R)]]),some (.row 2 [[.nilslice,.nilslice]])]) (λi=>(kinds c.nodes 14).length-i) (λi=>i≤(kinds c.nodes 14).length) 0 ?_ (Nat.zero_le _) ?_
  ·rw[List.take_zero,List.take_zero,show a1u N0 [] []=N0 from rfl]
   (simp+decide only[go_sem,a03,a00,a2y,a2m,n3,p3,e1,e2]<;>rfl)<;>rfl
  ·intro i hi';have hll:=a4d ((kinds c.nodes 14).take i) (p.sts.take i) N0;rw[hNl]at hll;by_cases hlt:i<(kinds c.nodes 14).length
   ·obtain⟨n,hn⟩:∃n,(kinds c.nodes 14)[i]?=some n:=⟨_,z9e hlt⟩
    obtain⟨w,hw⟩:∃w,p.sts[i]?=some w:=⟨_,z9e (by omega)⟩
    have hnn:=(a6p hn).1;have hst:=a8q (nets:=N0) hn hw;have c1:(i:Int)<(kinds c.nodes 14).length:=by omega
    have hwi:=wI1 (n:=i) (by omega);have hiv:i<p.sts.length:=by omega
    generalize a1u N0 ((kinds c.nodes 14).take i) (p.sts.take i)=N at hst hll;obtain⟨w0,hw0⟩:∃w,N[n]?=some w:=⟨_,z9e (by omega)⟩
    have hsR:(N.map u8R).set n [AV.int .u8 w]=(N.set n w).map u8R:=by rw[List.map_set];rfl
    (repeat first|simp only[ww]|(apply xa;simp+decide only[go_sem,c1,hlt,hn,hw,hnn,hwi,hiv,hll,hw0,hsR];rfl;kernel_rfl))
    refine a27 (i+1) ?_ (by omega) (by omega);rw[hst]
    (simp+decide only[go_sem,a03,a00,a2y,a2m,n3,p3,e1,e2]<;>rfl)<;>rfl
   have hie:i=(kinds c.nodes 14).length:=by omega
   subst hie;have c1:¬((kinds c.nodes 14).length:Int)<(kinds c.nodes 14).length:=by omega
   rw[List.take_length,List.take_of_length_le (by omega)]at hll⊢;generalize a1u N0 (kinds c.nodes 14) p.sts=N1 at hll hN1v⊢;have hNl1:=hll;clear hll
   (repeat first|simp only[ww]|(apply xa;simp+decide only[go_sem,c1,ho];rfl;kernel_rfl))
   refine a4j kp120_4 (λn F H=>∃i,n=ord.length-i∧i≤ord.length∧(∀v∈(ord.take i).foldl (Pc.stepG nAlg c.nodes g) N1,v≤3)∧F=[(0,.ptr 0 0 0),(4,.ptr 2 0 0),(5,sl r1 ((kinds c.nodes 14).map a0h)),(12,.func (.func 159) [.ptr 0 0 0] []),(89,.islice (ord.map a0h) (some c.nodes.length)),(90,.int .i64 ord.length),(91,.int .i64 i)]∧H=[some (.row 7 [[sl c.nc (c.nodes.map Nd.enc),sl c.mc (c.names.map a1h),.nilslice,sl c.oc (c.outs.map a0h),.slice 1 0 c.nodes.length (some c.nodes.length),net,pin]]),some (.row 1 (((ord.take i).foldl (Pc.stepG nAlg c.nodes g) N1).map u8R)),some (.row 2 [[.nilslice,.nilslice]])]) ord.length ?_ ?_
   ·refine⟨_,_,?_,0,rfl,Nat.zero_le _,by rw[List.take_zero];exact hN1v,rfl,rfl⟩;rw[List.take_zero,List.foldl_nil]
    (simp+decide only[go_sem,a03,a00,a2y,a2m,n3,p3,e1,e2]<;>rfl)<;>rfl
   ·rintro n F H ⟨i,rfl,hi2,hNv,rfl,rfl⟩
    have hll:=b84 (A:=nAlg) (nodes:=c.nodes) (h:=g) (ord.take i) N1;rw[hNl1]at hll;by_cases hlt:i<ord.length
    ·obtain⟨n,hn⟩:∃n,ord[i]?=some n:=⟨_,z9e hlt⟩
     have hnn:=hor n (List.mem_of_getElem? hn);obtain⟨x,hx⟩:∃x,c.nodes[n]?=some x:=⟨_,z9e hnn⟩
     have hxm:=List.mem_of_getElem? hx;have k14:=hc.kind x hxm;have hka:=a1e hx;have hst:=c07 (A:=nAlg) (nodes:=c.nodes) (h:=g) (nets:=N1) hn;have c1:(i:Int)<ord.length:=by omega
     have hwi:=wI1 (n:=i) (by omega);generalize(ord.take i).foldl (Pc.stepG nAlg c.nodes g) N1=N at hst hll hNv;have hstv:∀v∈Pc.stepG nAlg c.nodes g N n,v≤3:=c7e hg hNv n;obtain⟨w0,hw0⟩:∃w,N[n]?=some w:=⟨_,z9e (by omega)⟩
     by_cases hk:x.kind≠0∧x.kind≠14
     ·have c2:¬(x.kind:Int)=0:=by omega
      have c3:¬(x.kind:Int)=14:=by omega
      have hRv:∀v∈a1k nAlg c.nodes g N n,v≤3:=λv hv=>c89 hg hNv n _ _ v hv;have hev:=λ(d:Bool) (R:a02)=>c5o (d:=d) R c hc net pin g n3 h2 N hll n hnn hRv;unfold b15 at hev;have hstep:Pc.stepG nAlg c.nodes g N n=N.set n (g.net n (nAlg.ev (a0x c.nodes n) (a1k nAlg c.nodes g N n))):=by unfold Pc.stepG;rw[hka,if_pos hk]
      rw[hstep]at hst hstv;generalize nAlg.ev (a0x c.nodes n) (a1k nAlg c.nodes g N n)=w at hev hst hstv;have hsR:(N.map u8R).set n [AV.int .u8 w]=(N.set n w).map u8R:=by rw[List.map_set];rfl
      have hw1:(N.set n w)[n]?=some w:=by rw[List.getElem?_set];simp;omega
      have hlw:(N.set n w).length=c.nodes.length:=by rw[List.length_set];exact hll
      have hs2:((N.set n w).map u8R).set n [AV.int .u8 (g.net n w)]=(N.set n (g.net n w)).map u8R:=by have e:(N.set n (g.net n w))=(N.set n w).set n (g.net n w):=(List.set_set ..).symm;rw[e,List.map_set (l:=N.set n w)];rfl
      (repeat first|simp only[ww]|(apply xa;simp+decide only[go_sem,c1,hlt,hn,hnn,hx,c2,c3,hev,hll,hw0,hsR,hw1,hlw,hnc,hs2,hwi];rfl;kernel_rfl))
      refine a1j (ord.length-(i+1)) (by omega) ⟨_,_,?_,i+1,rfl,hlt,by rw[hst];exact hstv,rfl,rfl⟩;rw[hst]
      (simp+decide only[go_sem,a03,a00,a2y,a2m,n3,p3,e1,e2]<;>rfl)<;>rfl
     ·have hstep:Pc.stepG nAlg c.nodes g N n=N.set n (g.net n w0):=by
       unfold Pc.stepG;rw[hka,if_neg hk,List.getD,hw0];rfl
      rw[hstep]at hst hstv;have hs2:(N.map u8R).set n [AV.int .u8 (g.net n w0)]=(N.set n (g.net n w0)).map u8R:=by rw[List.map_set];rfl
      have hkc:x.kind=0∨x.kind=14:=by omega
      rcases hkc with hkc|hkc
      ·have c2:(x.kind:Int)=0:=by omega
       (repeat first|simp only[ww]|(apply xa;simp+decide only[go_sem,c1,hlt,hn,hnn,hx,c2,hll,hw0,hnc,hs2,hwi];rfl;kernel_rfl))
       refine a1j (ord.length-(i+1)) (by omega) ⟨_,_,?_,i+1,rfl,hlt,by rw[hst];exact hstv,rfl,rfl⟩;rw[hst]
       (simp+decide only[go_sem,a03,a00,a2y,a2m,n3,p3,e1,e2]<;>rfl)<;>rfl
      ·have c3:(x.kind:Int)=14:=by omega
       (repeat first|simp only[ww]|(apply xa;simp+decide only[go_sem,c1,hlt,hn,hnn,hx,c3,hll,hw0,hnc,hs2,hwi];rfl;kernel_rfl))
       refine a1j (ord.length-(i+1)) (by omega) ⟨_,_,?_,i+1,rfl,hlt,by rw[hst];exact hstv,rfl,rfl⟩;rw[hst]
       (simp+decide only[go_sem,a03,a00,a2y,a2m,n3,p3,e1,e2]<;>rfl)<;>rfl
    ·obtain rfl:i=ord.length:=by omega
     have c1:¬(ord.length:Int)<ord.length:=by omega
     rw[List.take_length]at hll hNv⊢;clear hN1v hNl1;generalize ord.foldl (Pc.stepG nAlg c.nodes g) N1=nets at hll hNv⊢;have hNf:=a2e nets;have m1:=a08 hNf;have m2:=λπ=>a06 π hNf;have hrd:=λ(d:Bool) (R:a02) (n:Nat) (hn:n<c.nodes.length)=>b3o (d:=d) R c hc net pin g n3 h2 nets hll n hn;unfold b15 at hrd
     (repeat first|simp only[ww]|(apply xa;simp+decide only[go_sem,c1];rfl;kernel_rfl))
     generalize hNR:nets.map u8R=NR at hrd hNf m1 m2;refine a4j kp120_6 (λn F H=>∃i,n=c.outs.length-i∧i≤c.outs.length∧F=[(0,.ptr 0 0 0),(4,.ptr 2 0 0),(5,sl r1 ((kinds c.nodes 14).map a0h)),(16,.ptr 3 0 0),(143,sl c.oc (c.outs.map a0h)),(144,.int .i64 c.outs.length),(145,.int .i64 i)]∧H=[some (.row 7 [[sl c.nc (c.nodes.map Nd.enc),sl c.mc (c.names.map a1h),.nilslice,sl c.oc (c.outs.map a0h),.slice 1 0 c.nodes.length (some c.nodes.length),net,pin]]),some (.row 1 NR),some (.row 2 [[.nilslice,.nilslice]]),some (.row 2 [[grV 4 ((a14 (c.outs.take i) nets).map u8R),.nilslice]])]++grH 1 ((a14 (c.outs.take i) nets).map u8R)) c.outs.length ?_ ?_
     ·refine⟨_,_,?_,0,rfl,Nat.zero_le _,rfl,rfl⟩;rw[List.take_zero,show a14 [] nets=[]from rfl]
      (simp+decide only[go_sem,a03,a00,a0t,a0u,List.map_nil,m1,m2,n3,p3,e1,e2]<;>rfl)<;>rfl
     ·rintro n F H ⟨i,rfl,hi3,rfl,rfl⟩
      have hTl:((a14 (c.outs.take i) nets).map u8R).length=i:=by simp[a14];omega
      have hTf:=a2e (a14 (c.outs.take i) nets);by_cases hlt:i<c.outs.length
      ·obtain⟨o,hoo⟩:∃o,c.outs[i]?=some o:=⟨_,z9e hlt⟩
       have hon:=hc.outs o (List.mem_of_getElem? hoo);obtain⟨v,hnv⟩:∃v,nets[o]?=some v:=⟨_,z9e (by omega)⟩
       have hNRo:NR[o]?=some [AV.int .u8 v]:=by rw[←hNR,List.getElem?_map,hnv];rfl
       have hNRl:NR.length=c.nodes.length:=by rw[←hNR,List.length_map];exact hll
       have c1:(i:Int)<c.outs.length:=by omega
       have hwi:=wI1 (n:=i) (by omega);have hT2:(a14 (c.outs.take (i+1)) nets).map u8R=(a14 (c.outs.take i) nets).map u8R++[[.int .u8 v]]:=by unfold a14;rw[a1g hoo,List.map_append,List.map_append];simp only[List.map_cons,List.map_nil,List.getD,hnv,Option.getD_some];rfl
       generalize(a14 (c.outs.take i) nets).map u8R=T at hTl hTf hT2;have h1':=a08 hTf;have h2':=λπ=>a06 π hTf;cases T with
       |nil=>
        (repeat first|simp only[ww]|(apply xa;simp+decide only[go_sem,c1,hlt,hoo,hon,hNRo,hNRl,hwi,a0t,a0u];rfl;kernel_rfl))
        refine a1j (c.outs.length-(i+1)) (by omega) ⟨_,_,?_,i+1,rfl,hlt,rfl,rfl⟩;rw[hT2]
        (simp+decide only[go_sem,a03,a00,a0b,a0c,List.nil_append,List.length_nil,m1,m2,n3,p3,e1,e2]<;>rfl)<;>rfl
       |cons a r=>
        simp only[List.length_cons]at hTl;have hrm:r.length+1+1≤1000000000:=by omega
        simp only[List.flatMap_cons]at h1';simp only[List.map_cons,List.cons.injEq]at h2'
        (repeat first|simp only[ww]|(apply xa;simp+decide only[go_sem,c1,hlt,hoo,hon,hNRo,hNRl,hwi,a0b,a0c,hrm];rfl;kernel_rfl))
        refine a1j (c.outs.length-(i+1)) (by omega) ⟨_,_,?_,i+1,rfl,hlt,rfl,rfl⟩;rw[hT2]
        (simp+decide only[go_sem,a03,a00,a0b,a0c,List.cons_append,h1',h2',m1,m2,n3,p3,e1,e2]<;>rfl)<;>rfl
      ·obtain rfl:i=c.outs.length:=by omega
       have c1:¬(c.outs.length:Int)<c.outs.length:=by omega
       rw[List.take_length]at hTl hTf⊢;have hOl:0<c.outs.length:=List.length_pos_iff.2 hO;have hTc:a2p (a14 c.outs nets) = .islice ((a14 c.outs nets).map u8R) (some c.outs.length):=by
        have hol2:(a14 c.outs nets).length=c.outs.length:=by simp[a14]
        cases hoN:a14 c.outs nets with
        |nil=>rw[hoN]at hol2;simp at hol2;omega
        |cons v q=>rw[hoN]at hol2;simp only[List.length_cons]at hol2;rw[←hol2];rfl
       unfold a9r;rw[hTc];generalize(a14 c.outs nets).map u8R=T at hTl hTf;cases T with
       |nil=>simp at hTl;omega
       |cons a r=>
        have hal:r.length+1=c.outs.length:=by simpa using hTl
        have h1':=a08 hTf;have h2':=λπ=>a06 π hTf;have h3':=λ(m:Nat) (q:AV→Option AV)=>a17 m q hTf;simp only[List.flatMap_cons]at h1';simp only[List.map_cons,List.cons.injEq]at h2';have hNl:(b0p c.nodes g nets (kinds c.nodes 14)).length=(kinds c.nodes 14).length:=by simp[b0p]
        have hNg:∀(i q:Nat),(kinds c.nodes 14)[i]?=some q→(b0p c.nodes g nets (kinds c.nodes 14))[i]?=some (if(a1k nAlg c.nodes g nets q).getD 0 0=3 then 2 else(a1k nAlg c.nodes g nets q).getD 0 0):=by intro i q hq;unfold b0p;rw[List.getElem?_map,hq];rfl
        generalize hXX:b0p c.nodes g nets (kinds c.nodes 14)=XX at hNl hNg⊢
        (repeat first|simp only[ww]|(apply xa;simp+decide only[go_sem,c1,a0b,a0c];rfl;kernel_rfl))
        refine a4j kp120_8 (λn F H=>∃i,n=(kinds c.nodes 14).length-i∧i≤(kinds c.nodes 14).length∧F=[(0,.ptr 0 0 0),(4,.ptr 2 0 0),(16,.ptr 3 0 0),(162,sl r1 ((kinds c.nodes 14).map a0h)),(163,.int .i64 (kinds c.nodes 14).length),(164,.int .i64 i)]∧H=[some (.row 7 [[sl c.nc (c.nodes.map Nd.enc),sl c.mc (c.names.map a1h),.nilslice,sl c.oc (c.outs.map a0h),.slice 1 0 c.nodes.length (some c.nodes.length),net,pin]]),some (.row 1 NR),some (.row 2 [[.nilslice,.nilslice]]),some (.row 2 [[.slice 4 0 (r.length+1) none,grV 5 ((XX.take i).map u8R)]]),some (.row 1 (a::r))]++grH 1 ((XX.take i).map u8R)) (kinds c.nodes 14).length ?_ ?_
        ·refine⟨_,_,?_,0,rfl,Nat.zero_le _,rfl,rfl⟩;rw[List.take_zero]
         (simp+decide only[go_sem,a03,a00,a0t,a0u,List.map_nil,m1,m2,h1',h2',n3,p3,e1,e2]<;>rfl)<;>rfl
        ·rintro n F H ⟨i,rfl,hi4,rfl,rfl⟩
         have hXl:((XX.take i).map u8R).length=i:=by simp;omega
         have hXf:=a2e (XX.take i);by_cases hlt:i<(kinds c.nodes 14).length
         ·obtain⟨q,hq⟩:∃q,(kinds c.nodes 14)[i]?=some q:=⟨_,z9e hlt⟩
          obtain⟨hqn,hqk⟩:=a6p hq;obtain⟨x,hx⟩:∃x,c.nodes[q]?=some x:=⟨_,z9e hqn⟩
          have hxk:x.kind=14:=by rw[←a1e hx];exact hqk
          have hx1:x.ins.length=1:=by have h1:=hc.lo x (List.mem_of_getElem? hx);have h2:=hc.hi x (List.mem_of_getElem? hx);rw[hxk]at h1 h2;have e1:a23 14=1:=rfl;have e2:a24 14=1:=rfl;omega
          have hRl:(a1k nAlg c.nodes g nets q).length=1:=by rw[a8k,a22 hx];exact hx1
          have hNgq:=hNg i q hq;have hrq:=λ(d:Bool) (R:a02)=>hrd d R q hqn;generalize a1k nAlg c.nodes g nets q=RR at hRl hNgq hrq;obtain⟨v,hRR⟩:∃v,RR=[v]:=by
           cases RR with
           |nil=>simp at hRl
           |cons v l=>cases l with
            |nil=>exact⟨v,rfl⟩
            |cons=>simp at hRl
          subst hRR;simp only[List.getD_cons_zero]at hNgq;have hX2:(XX.take (i+1)).map u8R=(XX.take i).map u8R++[[.int .u8 (if v=3 then 2 else v:Nat)]]:=by rw[a1g hNgq,List.map_append];rfl
          have c1:(i:Int)<(kinds c.nodes 14).length:=by omega
          have hwi:=wI1 (n:=i) (by omega);have hr0:Ax.rowAt ([v].map u8R) 0=some [AV.int .u8 v]:=rfl;have hrq:∀(d:Bool) (R:a02),_=some (sl none ([v].map u8R),_,_):=hrq;generalize(XX.take i).map u8R=X at hXl hXf hX2;generalize [v].map u8R=RV at hr0 hrq;have g1':=a08 hXf;have g2':=λπ=>a06 π hXf;by_cases hv3:v=3
          ·rw[if_pos hv3]at hX2;have c3:(v:Int)=3:=by omega
           cases X with
           |nil=>
            (repeat first|simp only[ww]|(apply xa;simp+decide only[go_sem,c1,hlt,hq,hrq,hr0,c3,hwi,a0t,a0u];rfl;kernel_rfl))
            refine a1j ((kinds c.nodes 14).length-(i+1)) (by omega) ⟨_,_,?_,i+1,rfl,hlt,rfl,rfl⟩;rw[hX2]
            (simp+decide only[go_sem,a03,a00,a0b,a0c,List.nil_append,List.length_nil,m1,m2,h1',h2',n3,p3,e1,e2]<;>rfl)<;>rfl
           |cons a2 r2=>
            simp only[List.length_cons]at hXl;have hrm:r2.length+1+1≤1000000000:=by omega
            simp only[List.flatMap_cons]at g1';simp only[List.map_cons,List.cons.injEq]at g2'
            (repeat first|simp only[ww]|(apply xa;simp+decide only[go_sem,c1,hlt,hq,hrq,hr0,c3,hwi,a0b,a0c,hrm];rfl;kernel_rfl))
            refine a1j ((kinds c.nodes 14).length-(i+1)) (by omega) ⟨_,_,?_,i+1,rfl,hlt,rfl,rfl⟩;rw[hX2]
            (simp+decide only[go_sem,a03,a00,a0b,a0c,List.cons_append,g1',g2',m1,m2,h1',h2',n3,p3,e1,e2]<;>rfl)<;>rfl
          ·rw[if_neg hv3]at hX2;have c3:¬(v:Int)=3:=by omega
           cases X with
           |nil=>
            (repeat first|simp only[ww]|(apply xa;simp+decide only[go_sem,c1,hlt,hq,hrq,hr0,c3,hwi,a0t,a0u];rfl;kernel_rfl))
            refine a1j ((kinds c.nodes 14).length-(i+1)) (by omega) ⟨_,_,?_,i+1,rfl,hlt,rfl,rfl⟩;rw[hX2]
            (simp+decide only[go_sem,a03,a00,a0b,a0c,List.nil_append,List.length_nil,m1,m2,h1',h2',n3,p3,e1,e2]<;>rfl)<;>rfl
           |cons a2 r2=>
            simp only[List.length_cons]at hXl;have hrm:r2.length+1+1≤1000000000:=by omega
            simp only[List.flatMap_cons]at g1';simp only[List.map_cons,List.cons.injEq]at g2'
            (repeat first|simp only[ww]|(apply xa;simp+decide only[go_sem,c1,hlt,hq,hrq,hr0,c3,hwi,a0b,a0c,hrm];rfl;kernel_rfl))
            refine a1j ((kinds c.nodes 14).length-(i+1)) (by omega) ⟨_,_,?_,i+1,rfl,hlt,rfl,rfl⟩;rw[hX2]
            (simp+decide only[go_sem,a03,a00,a0b,a0c,List.cons_append,g1',g2',m1,m2,h1',h2',n3,p3,e1,e2]<;>rfl)<;>rfl
         ·obtain rfl:i=(kinds c.nodes 14).length:=by omega
          have c1:¬((kinds c.nodes 14).length:Int)<(kinds c.nodes 14).length:=by omega
          have hcp:=λ(d:Bool) (x0 x1 x2 x3:Option AObj) (R:a02)=>a8r (d:=d) (H:=x0::x1::x2::x3::some (.row 1 (a::r))::R) (b:=4) (n:=r.length+1) hTf rfl;rw[List.take_of_length_le (by omega)]at hXl hXf⊢;cases XX with
          |nil=>
           have hcn:=λ(d:Bool) (H:a02)=>b49 (d:=d) H
           (repeat first|simp only[ww]|(apply xa;simp+decide only[go_sem,c1,hcp,hcn,List.map_nil,a0t,a0u];rfl;kernel_rfl))
           refine a2v (vs:=[.agg [.slice 4 0 (r.length+1) (some (r.length+1)),.nilslice]]) (r:=(_,_)) (by simp+decide only[go_sem]) ?_ rfl;show a26 false 1 (.agg [.slice 4 0 (r.length+1) (some (r.length+1)),.nilslice]) _=_;have htk:List.take (r.length+1) (a::r)=a::r:=List.take_length (l:=a::r);rw[←hal];unfold a2p;simp+decide only[go_sem,h3',m2,htk,e1,e2]<;>rfl
          |cons a2 r2=>
           have hcp2:=λ(d:Bool) (x0 x1 x2 x3 x4:Option AObj)=>a8r (d:=d) (H:=[x0,x1,x2,x3,x4,some (.row 1 ((a2::r2).map u8R))]) (b:=5) (n:=r2.length+1) hXf rfl;have g3':=λ(m:Nat) (q:AV→Option AV)=>a17 m q hXf;have hml:(r2.map u8R).length=r2.length:=List.length_map ..;simp only[List.map_cons,u8R]at hcp2 g3' hXf⊢
           (repeat first|simp only[ww]|(apply xa;simp+decide only[go_sem,c1,hcp,hcp2,a0b,a0c,hml];rfl;kernel_rfl))
           refine a2v (vs:=[.agg [.slice 4 0 (r.length+1) (some (r.length+1)),.slice 5 0 (r2.length+1) (some (r2.length+1))]]) (r:=(_,_)) (by simp+decide only[go_sem]) ?_ rfl;show a26 false 1 (.agg [.slice 4 0 (r.length+1) (some (r.length+1)),.slice 5 0 (r2.length+1) (some (r2.length+1))]) _=_;have htk:List.take (r.length+1) (a::r)=a::r:=List.take_length (l:=a::r);have htk2:List.take (r2.length+1) ([AV.int .u8 a2]::r2.map u8R)=[AV.int .u8 a2]::r2.map u8R:=List.take_of_length_le (by simp);rw[←hal];unfold a2p;simp only[List.map_cons,u8R];simp+decide only[go_sem,h3',g3',m2,htk,htk2,e1,e2]<;>rfl
theorem d44(c:Cir)(ord:List Nat)(p:Pat)(hp:PatOk c.nodes p):∀v∈a52 c ord p,v≤3:=b7i d6e _ _ _ _ _ hp.inv hp.stv
structure FunF(fV:AV)(φ:Nat→Nat):Prop where
 flat:refs fV=[]
 sto:fV.storable=true
 jk:AV.isJunk fV=false
 cl:AV.cells fV=[fV]
 call:∀(d:Bool) (H:a02) (w:Nat),a0a L.env d (sem L.env Mf) fV [.int .u8 w] H=some (.int .u8 (φ w),H,[])
theorem d9p(n w a:Nat)(q:Int)(fV:AV)(φ:Nat→Nat)(hf:FunF fV φ):sem L.env Mf 157 [.int .i64 n,.int .u8 w,.iptr [.int .i64 a,.int .i64 q],.iptr [fV]] []=some (.int .u8 (if n=a then φ w else w:Nat),[]):=by
 have hc:=hf.call;have hst:=hf.sto;by_cases h1:n=a
 ·subst h1;rw[if_pos rfl]
  (refine sv Tryz.f157 ?_;simp only[Tryz.f157,gS])
  (repeat first|simp only[ww]|(apply xa;simp+decide only[go_sem,hc];rfl;kernel_rfl))
  (apply fqb;simp+decide only[go_sem]<;>rfl)
 ·rw[if_neg h1];have h1:=nI h1
  (refine sv Tryz.f157 ?_;simp only[Tryz.f157,gS])
  (repeat first|simp only[ww]|(apply xa;simp+decide only[go_sem,h1];rfl;kernel_rfl))
  (apply fqb;simp+decide only[go_sem]<;>rfl)
theorem d9o(n p w a:Nat)(q:Int)(fV:AV)(φ:Nat→Nat)(hf:FunF fV φ):sem L.env Mf 158 [.int .i64 n,.int .i64 p,.int .u8 w,.iptr [.int .i64 a,.int .i64 q],.iptr [fV]] []=some (.int .u8 (if n=a∧(p:Int)=q then φ w else w:Nat),[]):=by
 have hc:=hf.call;by_cases h1:n=a
 ·subst h1;by_cases h2:(p:Int)=q
  ·subst h2;rw[if_pos ⟨rfl,rfl⟩]
   (refine sv Tryz.f158 ?_;simp only[Tryz.f158,gS])
   (repeat first|simp only[ww]|(apply xa;simp+decide only[go_sem,hc];rfl;kernel_rfl))
   (apply fqb;simp+decide only[go_sem]<;>rfl)
  ·rw[if_neg (λh=>h2 h.2)]
   (refine sv Tryz.f158 ?_;simp only[Tryz.f158,gS])
   (repeat first|simp only[ww]|(apply xa;simp+decide only[go_sem,h2];rfl;kernel_rfl))
   (apply fqb;simp+decide only[go_sem]<;>rfl)
 ·rw[if_neg (λh=>h1 h.1)];have h1:=nI h1
  (refine sv Tryz.f158 ?_;simp only[Tryz.f158,gS])
  (repeat first|simp only[ww]|(apply xa;simp+decide only[go_sem,h1];rfl;kernel_rfl))
  (apply fqb;simp+decide only[go_sem]<;>rfl)
def hkS(nd:Nat)(pin:Int)(φ:Nat→Nat):Hk Nat:=⟨λn w=>if pin<0∧n=nd then φ w else w,λn p w=>if 0≤pin∧n=nd∧(p:Int)=pin then φ w else w⟩
theorem e3p{nd:Nat}{pin:Int}{φ:Nat→Nat}(h:∀v,v≤3→φ v≤3):d6v (hkS nd pin φ):=by
 constructor
 ·intro n w hw;unfold hkS;dsimp only;split
  ·exact h w hw
  ·exact hw
 ·intro n p w hw;unfold hkS;dsimp only;split
  ·exact h w hw
  ·exact hw
theorem d9r(c:Cir)(nd:Nat)(pin:Int)(hq:pin<0)(fV:AV)(φ:Nat→Nat)(hf:FunF fV φ):∃net pn,NetN net (hkS nd pin φ).net∧PinN pn (hkS nd pin φ).pin∧
 sem L.env Mf 118 [.agg [sl c.nc (c.nodes.map Nd.enc),sl c.mc (c.names.map a1h),.nilslice,sl c.oc (c.outs.map a0h)],.agg [.int .i64 nd,.int .i64 pin],fV] []=some (.ptr 0 0 0,[some (b15 c .nilslice net pn)]):=by
 have hst:=hf.sto;have hfl:=hf.flat;have hfn:∀π,ren π fV=fV:=λπ=>a0d π _ hfl;have hff:=λm t d=>a0j m t d _ hfl;have hjk:=hf.jk;have hcl:=hf.cl;refine⟨.func (.func 157) [] [.iptr [.int .i64 nd,.int .i64 pin],.iptr [fV]],.func (.func 156) [] [],⟨rfl,rfl,rfl,λd H n w=>?_⟩,?_,?_⟩
 ·have h1:=a04 (E:=L.env) (draw:=d) (call:=sem L.env Mf) (H:=H) (g:=157) (fs:=[]) (ar:=[.int .i64 n,.int .u8 w]) (cs:=[.iptr [.int .i64 nd,.int .i64 pin],.iptr [fV]]) (by kernel_rfl) (by kernel_rfl) rfl rfl (d9p n w nd pin fV φ hf) rfl;rw[h1];have:(if n=nd then φ w else w)=(hkS nd pin φ).net n w:=by
   unfold hkS;simp[hq]
  rw[this]
 ·have:(hkS nd pin φ).pin=λ_ _ w=>w:=by
   funext n p w;unfold hkS
   have:¬0≤pin:=by omega
   simp[this]
  rw[this];exact e7s
 ·(refine sv Tryz.f118 ?_;simp only[Tryz.f118,gS])
  (repeat first|simp only[ww]|(apply xa;simp+decide only[go_sem,hq,hst,hjk,hcl];rfl;kernel_rfl))
  refine a7k (vs:=[.ptr 3 0 0]) (by simp+decide only[go_sem]) ?_;unfold b15;simp+decide only[go_sem,hfl,hfn,hff]<;>rfl
theorem d9q(c:Cir)(nd:Nat)(pin:Int)(hq:¬pin<0)(fV:AV)(φ:Nat→Nat)(hf:FunF fV φ):∃net pn,NetN net (hkS nd pin φ).net∧PinN pn (hkS nd pin φ).pin∧
 sem L.env Mf 118 [.agg [sl c.nc (c.nodes.map Nd.enc),sl c.mc (c.names.map a1h),.nilslice,sl c.oc (c.outs.map a0h)],.agg [.int .i64 nd,.int .i64 pin],fV] []=some (.ptr 0 0 0,[some (b15 c .nilslice net pn)]):=by
 have hst:=hf.sto;have hfl:=hf.flat;have hfn:∀π,ren π fV=fV:=λπ=>a0d π _ hfl;have hff:=λm t d=>a0j m t d _ hfl;have hjk:=hf.jk;have hcl:=hf.cl;refine⟨.func (.func 155) [] [],.func (.func 158) [] [.iptr [.int .i64 nd,.int .i64 pin],.iptr [fV]],?_,⟨rfl,rfl,rfl,λd H n p w=>?_⟩,?_⟩
 ·have:(hkS nd pin φ).net=λ_ w=>w:=by
   funext n w;unfold hkS
   simp[hq]
  rw[this];exact e7n
 ·have h1:=a04 (E:=L.env) (draw:=d) (call:=sem L.env Mf) (H:=H) (g:=158) (fs:=[]) (ar:=[.int .i64 n,.int .i64 p,.int .u8 w]) (cs:=[.iptr [.int .i64 nd,.int .i64 pin],.iptr [fV]]) (by kernel_rfl) (by kernel_rfl) rfl rfl (d9o n p w nd pin fV φ hf) rfl;rw[h1];have:(if n=nd∧(p:Int)=pin then φ w else w)=(hkS nd pin φ).pin n p w:=by
   unfold hkS;have:0≤pin:=by omega
   simp[this]
  rw[this]
 ·(refine sv Tryz.f118 ?_;simp only[Tryz.f118,gS])
  (repeat first|simp only[ww]|(apply xa;simp+decide only[go_sem,hq,hst,hjk,hcl];rfl;kernel_rfl))
  refine a7k (vs:=[.ptr 3 0 0]) (by simp+decide only[go_sem]) ?_;unfold b15;simp+decide only[go_sem,hfl,hfn,hff]<;>rfl
/- a slow fault between two patterns -/
section
variable (c:Cir)(ord:List Nat)(nd:Nat)(pin:Int)(val:Nat)
def spN:Nat:=if pin<0 then nd else(a2k c.nodes nd).getD pin.toNat 0
def spK:Nat:=if val=0 then 7 else 5
def spφ(p:Pat)(w:Nat):Nat:=a3v (spK val) [(a52 c ord p).getD (spN c nd pin) 0,w]
def d62(p:Pat):Hk Nat:=hkS nd pin (spφ c ord nd pin val p)
def pdO(p q:Pat):List Nat:=a14 c.outs (c6g c ord (d62 c ord nd pin val p) q)
def pdN(p q:Pat):List Nat:=b0p c.nodes (d62 c ord nd pin val p) (c6g c ord (d62 c ord nd pin val p) q) (kinds c.nodes 14)
end
theorem c7o(c:Cir)(ord:List Nat)(nd:Nat)(pin:Int)(val:Nat)(p:Pat)(hp:PatOk c.nodes p):d6v (d62 c ord nd pin val p):=e3p (λv hv=>by
 unfold spφ;refine b7j _ _ (λw hw=>?_);simp only[List.mem_cons,List.not_mem_nil,or_false]at hw;rcases hw with rfl|rfl
 ·exact b29 (d44 c ord p hp) _
 ·exact hv)
theorem d2u(w old k:Nat)(hk:k<16):sem L.env Mf 119 [.int .u8 w,.iptr [.func (.func 154) [] [.iptr [.int .u8 k]]],.iptr [.int .u8 old]] []=some (.int .u8 (a3v k [old,w]:Nat),[]):=by
 have hrc:=λ(d:Bool) (H:a02)=>a04 (E:=L.env) (draw:=d) (call:=sem L.env Mf) (H:=H) (g:=154) (fs:=[]) (ar:=[.int .u8 old,.int .u8 w]) (cs:=[.iptr [.int .u8 k]]) (by kernel_rfl) (by kernel_rfl) rfl rfl (e2n old w k hk) rfl;generalize a3v k [old,w]=v at hrc
 (refine sv Tryz.f119 ?_;simp only[Tryz.f119,gS])
 (repeat first|simp only[ww]|(apply xa;simp+decide only[go_sem,hrc];rfl;kernel_rfl))
 (apply fqb;simp+decide only[go_sem]<;>rfl)
theorem prF(old k:Nat)(hk:k<16):FunF (.func (.func 119) [] [.iptr [.func (.func 154) [] [.iptr [.int .u8 k]]],.iptr [.int .u8 old]]) (λw=>a3v k [old,w]):=⟨rfl,rfl,rfl,rfl,λd H w=>a04 (by kernel_rfl) (by kernel_rfl) rfl rfl (d2u w old k hk) rfl⟩
theorem c5z(c:Cir)(h:c.wf)(nd:Nat)(pin:Int)(val:Nat)(hf:FltOk c.nodes ⟨0,nd,pin,val,0⟩):sem L.env Mf 21 [.agg c.enc,.agg [.int .u8 1,.int .i64 nd,.int .i64 pin,.int .u8 val,.int .i64 0]] []=some (.int .i64 0,[]):=by
 have hv:=λH=>c2a (d:=false) H c h;have hl:=λH=>c5x (d:=false) H c h nd pin hf.node hf.pin.1 hf.pin.2;have hval:=hf.value;have c2:¬(1:Int)<val:=by have:val≤1:=hval;omega
 simp only[Cir.enc]at hv hl⊢
 (refine sv Tryz.f21 ?_;simp only[Tryz.f21,gS])
 (repeat first|simp only[ww]|(apply xa;simp+decide only[go_sem,hv,hl,c2];rfl;kernel_rfl))
 (apply fqb;simp+decide only[go_sem]<;>rfl)
theorem a84{d:Bool}(H:a02)(c:Cir)(h:c.wf)(nd:Nat)(pin:Int)(val:Nat)(hf:FltOk c.nodes ⟨0,nd,pin,val,0⟩):a0a L.env d (sem L.env Mf) (.func (.func 21) [] []) [.agg c.enc,.agg [.int .u8 1,.int .i64 nd,.int .i64 pin,.int .u8 val,.int .i64 0]] H=some (.int .i64 0,H,[]):=a04 (by kernel_rfl) (by kernel_rfl) rfl (by simp only[a07,a0s,Cir.enc,go_sem]) (c5z c h nd pin val hf) rfl
theorem d84(c:Cir)(hc:c.wf)(hO:c.outs≠[])(p:Pat)(hp:PatOk c.nodes p)(q:Pat)(hq:PatOk c.nodes q)(nd:Nat)(pin:Int)(val:Nat)(hf:FltOk c.nodes ⟨0,nd,pin,val,0⟩)(ord:List Nat)(hord:OrdOf c ord) :
 sem L.env Mf 64 [.agg [sl c.nc (c.nodes.map Nd.enc),sl c.mc (c.names.map a1h),.nilslice,sl c.oc (c.outs.map a0h)],.agg [.int .u8 1,.int .i64 nd,.int .i64 pin,.int .u8 val,.int .i64 0],.agg [sl p.ic (p.ins.map u8R),sl p.sc (p.sts.map u8R)],.agg [sl q.ic (q.ins.map u8R),sl q.sc (q.sts.map u8R)]] []=some (.tuple [a9r (a14 c.outs (a52 c ord q)) (a1q c.nodes (a52 c ord q)),a9r (pdO c ord nd pin val p q) (pdN c ord nd pin val p q),.junk,.int .i64 0],[]):=by
 have hck:=λ(d:Bool) (H:a02)=>a84 (d:=d) H c hc nd pin val hf;have hsr:=λ(p:Pat) (hp:PatOk c.nodes p) (d:Bool) (H:a02)=>a04 (E:=L.env) (draw:=d) (call:=sem L.env Mf) (H:=H) (g:=23) (fs:=[]) (cs:=[]) (ar:=[.agg c.enc,.agg p.enc]) (by kernel_rfl) (by kernel_rfl) rfl (by simp only[List.nil_append,List.append_nil,a07,a0s,Cir.enc,Pat.enc,go_sem]) (c7n c hc hO p hp ord hord) (by simp only[a5h,a07,a5q,a12,List.append_nil];simp only[go_sem]);have hs1:=hsr p hp;have hs2:=hsr q hq;simp only[Cir.enc,Pat.enc]at hck hs1 hs2;unfold a9r at hs1 hs2⊢;have a1:=a1d (a14 c.outs (a52 c ord p));have a2:=a1d (a1q c.nodes (a52 c ord p));have b1:=a18 (a14 c.outs (a52 c ord p));have b2:=a18 (a1q c.nodes (a52 c ord p));have a3:=a1d (a14 c.outs (a52 c ord q));have a4:=a1d (a1q c.nodes (a52 c ord q));have b3:=a18 (a14 c.outs (a52 c ord q));have b4:=a18 (a1q c.nodes (a52 c ord q));generalize a2p (a14 c.outs (a52 c ord p))=P1 at hs1 a1 b1;generalize a2p (a1q c.nodes (a52 c ord p))=P2 at hs1 a2 b2;generalize a2p (a14 c.outs (a52 c ord q))=G1 at hs2 a3 b3⊢;generalize a2p (a1q c.nodes (a52 c ord q))=G2 at hs2 a4 b4⊢;have f1:=λm t d=>a0j m t d _ b1;have f2:=λm t d=>a0j m t d _ b2;have f3:=λm t d=>a0j m t d _ b3;have f4:=λm t d=>a0j m t d _ b4;have hnd:nd<c.nodes.length:=hf.node;obtain⟨x,hx⟩:∃x,c.nodes[nd]?=some x:=⟨_,z9e hnd⟩
 have hpin:=hf.pin;have hxi:=a22 hx;have hGl:(a52 c ord p).length=c.nodes.length:=c8n _ _ _ _ _;have hnn:spN c nd pin<c.nodes.length:=by
  unfold spN;split
  ·exact hnd
  ·rw[hxi];have h2:pin.toNat<x.ins.length:=by
    have h3:=hpin.2;have h4:(a2k c.nodes nd).length=x.ins.length:=by rw[hxi]
    have h5:pin<(a2k c.nodes nd).length:=h3;omega
   rw[List.getD_eq_getElem?_getD,z9e h2];exact hc.ins x (List.mem_of_getElem? hx) _ (List.getElem_mem h2)
 obtain⟨old,hold⟩:∃old,(a52 c ord p)[spN c nd pin]?=some old:=⟨_,z9e (by omega)⟩
 have hval:val≤1:=hf.value;have hkk:spK val<16:=by unfold spK;split<;>omega
 have hwv:IntKind.u8.wrap (1-(val:Int))=((1-val:Nat):Int):=by
  have:val=0∨val=1:=by omega
  rcases this with rfl|rfl<;>rfl
 have hrs:=λ(d:Bool) (H:a02)=>a04 (E:=L.env) (draw:=d) (call:=sem L.env Mf) (H:=H) (g:=117) (fs:=[]) (ar:=[.int .u8 (1-val:Nat)]) (cs:=[]) (by kernel_rfl) (by kernel_rfl) rfl rfl (c1l (1-val) (spK val) (by unfold spK;rcases(show val=0∨val=1 by omega)with rfl|rfl<;>rfl)) rfl;have hF:=prF old (spK val) hkk;have hpp:(pin<0∧spN c nd pin=nd)∨∃pn:Nat,pin=pn∧x.ins[pn]?=some (spN c nd pin):=by
  by_cases h:pin<0
  ·exact .inl ⟨h,by unfold spN;rw[if_pos h]⟩
  ·refine .inr ⟨pin.toNat,by omega,?_⟩;have h3:pin<(a2k c.nodes nd).length:=hpin.2;rw[hxi]at h3;have h2:pin.toNat<x.ins.length:=by omega
   unfold spN;rw[if_neg h,hxi,List.getD_eq_getElem?_getD,z9e h2];rfl
 have hφ:spφ c ord nd pin val p=λw=>a3v (spK val) [old,w]:=by funext w;unfold spφ;rw[List.getD_eq_getElem?_getD,hold];rfl
 have hle:=c7o c ord nd pin val p hp;unfold pdO pdN;unfold d62 at hle⊢;rw[hφ]at hle⊢;obtain⟨net,pnf,hN,hP,hfa⟩:∃net pn,NetN net (hkS nd pin (λw=>a3v (spK val) [old,w])).net∧PinN pn (hkS nd pin (λw=>a3v (spK val) [old,w])).pin∧sem L.env Mf 118 [.agg [sl c.nc (c.nodes.map Nd.enc),sl c.mc (c.names.map a1h),.nilslice,sl c.oc (c.outs.map a0h)],.agg [.int .i64 nd,.int .i64 pin],.func (.func 119) [] [.iptr [.func (.func 154) [] [.iptr [.int .u8 (spK val)]]],.iptr [.int .u8 old]]] []=some (.ptr 0 0 0,[some (b15 c .nilslice net pn)]):=by
  by_cases hq0:pin<0
  ·exact d9r c nd pin hq0 _ _ hF
  ·exact d9q c nd pin hq0 _ _ hF
 have hir:=d8t c hc hO q hq ord hord net pnf _ hN hP hle;generalize hkS nd pin (λw=>a3v (spK val) [old,w])=hk at hN hP hir hle⊢;have n3:=hN.flat;have p3:=hP.flat;have hfl:∀v:AV,refs v=[]→FlatR [[sl c.nc (c.nodes.map Nd.enc),sl c.mc (c.names.map a1h),.nilslice,sl c.oc (c.outs.map a0h),v,net,pnf]]:=λv hv r hr=>by rw[List.mem_singleton]at hr;subst hr;simp only[go_sem,hv,n3,p3]
 have hfl0:=hfl .nilslice rfl;have hfl1:=hfl .junk rfl;unfold b15 at hfa hir;have hat:∀x0 x1 x2 x3 x4 x5:Option AObj,a0a L.env false (sem L.env Mf) (.func (.func 118) [] []) [.agg [sl c.nc (c.nodes.map Nd.enc),sl c.mc (c.names.map a1h),.nilslice,sl c.oc (c.outs.map a0h)],.agg [.int .i64 nd,.int .i64 pin],.func (.func 119) [] [.iptr [.func (.func 154) [] [.iptr [.int .u8 (spK val)]]],.iptr [.int .u8 old]]] [x0,x1,x2,x3,x4,x5]=some (.ptr 6 0 0,[x0,x1,x2,x3,x4,x5,some (.row 7 [[sl c.nc (c.nodes.map Nd.enc),sl c.mc (c.names.map a1h),.nilslice,sl c.oc (c.outs.map a0h),.nilslice,net,pnf]])],[]):=λx0 x1 x2 x3 x4 x5=>c6f (by kernel_rfl) (by kernel_rfl) rfl (by simp only[List.nil_append,List.append_nil,go_sem]) hfa hfl0;have hir':∀x0 x1 x2 x3 x4 x5:Option AObj,a0a L.env false (sem L.env Mf) (.func (.func 120) [] []) [.ptr 6 0 0,.agg [sl q.ic (q.ins.map u8R),sl q.sc (q.sts.map u8R)]] [x0,x1,x2,x3,x4,x5,some (.row 7 [[sl c.nc (c.nodes.map Nd.enc),sl c.mc (c.names.map a1h),.nilslice,sl c.oc (c.outs.map a0h),.nilslice,net,pnf]])]=some (_,[x0,x1,x2,x3,x4,x5,some (.row 7 [[sl c.nc (c.nodes.map Nd.enc),sl c.mc (c.names.map a1h),.nilslice,sl c.oc (c.outs.map a0h),.junk,net,pnf]])],[6]):=λx0 x1 x2 x3 x4 x5=>a40 (b:=6) (by kernel_rfl) (by kernel_rfl) rfl rfl (by simp only[go_sem,n3,p3]) (FlatO.row hfl0) (by simp only[List.nil_append,List.append_nil,go_sem]) (by simp+decide only[List.nil_append,List.append_nil,List.map_cons,List.map_nil,go_sem]<;>rfl) hir (FlatO.row hfl1) (a0d _ _ (a5q _ _));have s3:=a1d (a14 c.outs (c6g c ord hk q));have s4:=a1d (b0p c.nodes hk (c6g c ord hk q) (kinds c.nodes 14));have q3:=a18 (a14 c.outs (c6g c ord hk q));have q4:=a18 (b0p c.nodes hk (c6g c ord hk q) (kinds c.nodes 14));have m1:¬(7:Int)=0:=by omega
 have m2:¬(1:Int)=0:=by omega
 unfold a9r at hir';generalize a2p (a14 c.outs (c6g c ord hk q))=B1 at hir' s3 q3⊢;generalize a2p (b0p c.nodes hk (c6g c ord hk q) (kinds c.nodes 14))=B2 at hir' s4 q4⊢;clear hφ hF hfa;generalize spK val=k at hrs hkk hat;generalize hn':spN c nd pin=n' at hnn hold hpp;refine svY Tryz.f64 6 9 ?_;simp only[Tryz.f64,gS];rcases hpp with ⟨hq0,rfl⟩|⟨pn,rfl,hxp⟩
 ·have c0:¬(0:Int)≤pin:=by omega
  refine a6x ?_
  (repeat first|simp only[ww]|(apply xa;simp+decide only[go_sem,hck,hs1,hs2,a1,a2,a3,a4,c0,hold,hnn,hGl,hwv,hrs];rfl;kernel_rfl))
  try rw[a7m]
  try simp only[b8x,List.length_nil,Nat.zero_add]
  repeat rw[a1o (by simp+decide only[go_sem,a65,a1f,b1,b2,b3,b4,and_true,true_and])]
  simp+decide only[go_sem,f1,f2,f3,f4,List.take_succ_cons,List.take_zero,List.take_nil];refine a6x ?_
  (repeat first|simp only[ww]|(apply xa;simp+decide only[go_sem,hck,hs1,hs2,a1,a2,a3,a4,c0,hold,hnn,hGl,hwv,hrs];rfl;kernel_rfl))
  try rw[a7m]
  try simp only[b8x,List.length_nil,Nat.zero_add]
  repeat rw[a1o (by simp+decide only[go_sem,a65,a1f,b1,b2,b3,b4,and_true,true_and])]
  simp+decide only[go_sem,f1,f2,f3,f4,List.take_succ_cons,List.take_zero,List.take_nil];refine a6x ?_
  (repeat first|simp only[ww]|(apply xa;simp+decide only[go_sem,hck,hs1,hs2,a1,a2,a3,a4,c0,hold,hnn,hGl,hwv,hrs];rfl;kernel_rfl))
  try rw[a7m]
  try simp only[b8x,List.length_nil,Nat.zero_add]
  repeat rw[a1o (by simp+decide only[go_sem,a65,a1f,b1,b2,b3,b4,and_true,true_and])]
  simp+decide only[go_sem,f1,f2,f3,f4,List.take_succ_cons,List.take_zero,List.take_nil];refine a6x ?_
  (repeat first|simp only[ww]|(apply xa;simp+decide only[go_sem,hck,hs1,hs2,a1,a2,a3,a4,c0,hold,hnn,hGl,hwv,hrs];rfl;kernel_rfl))
  try rw[a7m]
  try simp only[b8x,List.length_nil,Nat.zero_add]
  repeat rw[a1o (by simp+decide only[go_sem,a65,a1f,b1,b2,b3,b4,and_true,true_and])]
  simp+decide only[go_sem,f1,f2,f3,f4,List.take_succ_cons,List.take_zero,List.take_nil];refine a6x ?_
  (repeat first|simp only[ww]|(apply xa;simp+decide only[go_sem,hck,hs1,hs2,a1,a2,a3,a4,c0,hold,hnn,hGl,hwv,hrs];rfl;kernel_rfl))
  try rw[a7m]
  try simp only[b8x,List.length_nil,Nat.zero_add]
  repeat rw[a1o (by simp+decide only[go_sem,a65,a1f,b1,b2,b3,b4,and_true,true_and])]
  simp+decide only[go_sem,f1,f2,f3,f4,List.take_succ_cons,List.take_zero,List.take_nil];refine a6x ?_
  (repeat first|simp only[ww]|(apply xa;simp+decide only[go_sem,hck,hs1,hs2,a1,a2,a3,a4,c0,hold,hnn,hGl,hwv,hrs];rfl;kernel_rfl))
  try rw[a7m]
  try simp only[b8x,List.length_nil,Nat.zero_add]
  repeat rw[a1o (by simp+decide only[go_sem,a65,a1f,b1,b2,b3,b4,and_true,true_and])]
  simp+decide only[go_sem,f1,f2,f3,f4,List.take_succ_cons,List.take_zero,List.take_nil];refine a6x ?_
  (repeat first|simp only[ww]|(apply xa;simp+decide only[go_sem,hck,hs1,hs2,a1,a2,a3,a4,c0,hold,hnn,hGl,hwv,hrs];rfl;kernel_rfl))
  try rw[a7m]
  try simp only[b8x,List.length_nil,Nat.zero_add]
  repeat rw[a1o (by simp+decide only[go_sem,a65,a1f,b1,b2,b3,b4,and_true,true_and])]
  simp+decide only[go_sem,f1,f2,f3,f4,List.take_succ_cons,List.take_zero,List.take_nil];refine a6x ?_
  (repeat first|simp only[ww]|(apply xa;simp+decide only[go_sem,hck,hs1,hs2,a1,a2,a3,a4,c0,hold,hnn,hGl,hwv,hrs];rfl;kernel_rfl))
  try rw[a7m]
  try simp only[b8x,List.length_nil,Nat.zero_add]
  repeat rw[a1o (by simp+decide only[go_sem,a65,a1f,b1,b2,b3,b4,and_true,true_and])]
  simp+decide only[go_sem,f1,f2,f3,f4,List.take_succ_cons,List.take_zero,List.take_nil];refine d1x ?_
  (repeat first|simp only[ww]|(apply xa;simp+decide only[go_sem,hat,hir',m1,m2,s3,s4,a3,a4];rfl;kernel_rfl))
  refine a7k (vs:=[.agg [G1,G2],.agg [B1,B2],.junk,.int .i64 0]) (by simp+decide only[go_sem]<;>rfl) (a7a (by show(refs G1++(refs G2++[]))++((refs B1++(refs B2++[]))++_)=[];rw[b3,b4,q3,q4];rfl))
 ·have hpl:=(List.getElem?_eq_some_iff.1 hxp).1;have c0:(0:Int)≤pn:=by omega
  refine a6x ?_
  (repeat first|simp only[ww]|(apply xa;simp+decide only[go_sem,hck,hs1,hs2,a1,a2,a3,a4,c0,hold,hnn,hGl,hwv,hrs,hx,hnd,hxp,hpl];rfl;kernel_rfl))
  try rw[a7m]
  try simp only[b8x,List.length_nil,Nat.zero_add]
  repeat rw[a1o (by simp+decide only[go_sem,a65,a1f,b1,b2,b3,b4,and_true,true_and])]
  simp+decide only[go_sem,f1,f2,f3,f4,List.take_succ_cons,List.take_zero,List.take_nil];refine a6x ?_
  (repeat first|simp only[ww]|(apply xa;simp+decide only[go_sem,hck,hs1,hs2,a1,a2,a3,a4,c0,hold,hnn,hGl,hwv,hrs,hx,hnd,hxp,hpl];rfl;kernel_rfl))
  try rw[a7m]
  try simp only[b8x,List.length_nil,Nat.zero_add]
  repeat rw[a1o (by simp+decide only[go_sem,a65,a1f,b1,b2,b3,b4,and_true,true_and])]
  simp+decide only[go_sem,f1,f2,f3,f4,List.take_succ_cons,List.take_zero,List.take_nil];refine a6x ?_
  (repeat first|simp only[ww]|(apply xa;simp+decide only[go_sem,hck,hs1,hs2,a1,a2,a3,a4,c0,hold,hnn,hGl,hwv,hrs,hx,hnd,hxp,hpl];rfl;kernel_rfl))
  try rw[a7m]
  try simp only[b8x,List.length_nil,Nat.zero_add]
  repeat rw[a1o (by simp+decide only[go_sem,a65,a1f,b1,b2,b3,b4,and_true,true_and])]
  simp+decide only[go_sem,f1,f2,f3,f4,List.take_succ_cons,List.take_zero,List.take_nil];refine a6x ?_
  (repeat first|simp only[ww]|(apply xa;simp+decide only[go_sem,hck,hs1,hs2,a1,a2,a3,a4,c0,hold,hnn,hGl,hwv,hrs,hx,hnd,hxp,hpl];rfl;kernel_rfl))
  try rw[a7m]
  try simp only[b8x,List.length_nil,Nat.zero_add]
  repeat rw[a1o (by simp+decide only[go_sem,a65,a1f,b1,b2,b3,b4,and_true,true_and])]
  simp+decide only[go_sem,f1,f2,f3,f4,List.take_succ_cons,List.take_zero,List.take_nil];refine a6x ?_
  (repeat first|simp only[ww]|(apply xa;simp+decide only[go_sem,hck,hs1,hs2,a1,a2,a3,a4,c0,hold,hnn,hGl,hwv,hrs,hx,hnd,hxp,hpl];rfl;kernel_rfl))
  try rw[a7m]
  try simp only[b8x,List.length_nil,Nat.zero_add]
  repeat rw[a1o (by simp+decide only[go_sem,a65,a1f,b1,b2,b3,b4,and_true,true_and])]
  simp+decide only[go_sem,f1,f2,f3,f4,List.take_succ_cons,List.take_zero,List.take_nil];refine a6x ?_
  (repeat first|simp only[ww]|(apply xa;simp+decide only[go_sem,hck,hs1,hs2,a1,a2,a3,a4,c0,hold,hnn,hGl,hwv,hrs,hx,hnd,hxp,hpl];rfl;kernel_rfl))
  try rw[a7m]
  try simp only[b8x,List.length_nil,Nat.zero_add]
  repeat rw[a1o (by simp+decide only[go_sem,a65,a1f,b1,b2,b3,b4,and_true,true_and])]
  simp+decide only[go_sem,f1,f2,f3,f4,List.take_succ_cons,List.take_zero,List.take_nil];refine a6x ?_
  (repeat first|simp only[ww]|(apply xa;simp+decide only[go_sem,hck,hs1,hs2,a1,a2,a3,a4,c0,hold,hnn,hGl,hwv,hrs,hx,hnd,hxp,hpl];rfl;kernel_rfl))
  try rw[a7m]
  try simp only[b8x,List.length_nil,Nat.zero_add]
  repeat rw[a1o (by simp+decide only[go_sem,a65,a1f,b1,b2,b3,b4,and_true,true_and])]
  simp+decide only[go_sem,f1,f2,f3,f4,List.take_succ_cons,List.take_zero,List.take_nil];refine a6x ?_
  (repeat first|simp only[ww]|(apply xa;simp+decide only[go_sem,hck,hs1,hs2,a1,a2,a3,a4,c0,hold,hnn,hGl,hwv,hrs,hx,hnd,hxp,hpl];rfl;kernel_rfl))
  try rw[a7m]
  try simp only[b8x,List.length_nil,Nat.zero_add]
  repeat rw[a1o (by simp+decide only[go_sem,a65,a1f,b1,b2,b3,b4,and_true,true_and])]
  simp+decide only[go_sem,f1,f2,f3,f4,List.take_succ_cons,List.take_zero,List.take_nil];refine d1x ?_
  (repeat first|simp only[ww]|(apply xa;simp+decide only[go_sem,hat,hir',m1,m2,s3,s4,a3,a4];rfl;kernel_rfl))
  refine a7k (vs:=[.agg [G1,G2],.agg [B1,B2],.junk,.int .i64 0]) (by simp+decide only[go_sem]<;>rfl) (a7a (by show(refs G1++(refs G2++[]))++((refs B1++(refs B2++[]))++_)=[];rw[b3,b4,q3,q4];rfl))
end Go.UInst
