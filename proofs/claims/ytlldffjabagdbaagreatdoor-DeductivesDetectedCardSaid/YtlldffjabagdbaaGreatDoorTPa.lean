/- Part of a proof. No condition. -/
import Derived.Test.YtlldffjabagdbaaGreatDoorTNe
import Derived.Test.YtlldffjabagdbaaGreatDoorPcB
import Derived.Test.YtlldffjabagdbaaGreatDoorAxD
set_option linter.unusedSimpArgs false
set_option linter.unusedVariables false
namespace Go.TInst
open Go.Proofs Go.Ax Go.Pc
set_option maxRecDepth 100000
theorem d7q(c:Cir)(h:c.wf):∃r:AV×a03,(∃v,refs v=[]∧r=(.tuple [v,.int .i64 0],[]))∧sem L.env Mf 10 [.agg c.enc] []=some r:=by
 have hn:=h.len;have hv:=λH=>b17 (d:=false) H c h;simp only[Cir.enc]at hv⊢
 (refine svE Tryz.f10 ?_;simp only[Tryz.f10,gS])
 (repeat first|simp only[ww]|(apply xa;simp+decide only[go_sem,hv];rfl;kernel_rfl))
 refine a4l kp10_0 (λn F H=>∃(i:Nat) (l:List (List AV)),n=c.nodes.length-i∧i≤c.nodes.length∧F=[(5,grV 0 l),(15,sl c.nc (c.nodes.map Nd.enc)),(16,.int .i64 c.nodes.length),(17,.int .i64 i)]∧H=grH 2 l∧FlatR l∧l.length≤20*i) (c.nodes.length-0) ?_ ?_
 ·refine⟨_,_,?_,0,[],rfl,f4m _,rfl,rfl,FlatR.nil,f4m _⟩
  (simp+decide only[go_sem,a02,a00,a0g,a0h]<;>rfl)<;>rfl
 ·rintro n F H ⟨i,l,rfl,hi,rfl,rfl,aY,aQ⟩
  by_cases ah:i<c.nodes.length
  ·obtain⟨x,hx⟩:∃x,c.nodes[i]?=some x:=⟨_,z9e ah⟩
   have c1:(i:Int)<c.nodes.length:=by omega
   have hw:=wI1 (n:=i) (by omega);have cM:=h.insl (c11 hx);have ld:=wI1 (n:=x.ins.length) (by omega);have h1:=a0f aY;have h2:=λπ=>a0c π aY;cases l with
   |nil=>
    (repeat first|simp only[ww]|(apply xa;simp+decide only[go_sem,c1,ah,hx,hw,ld,a0g,a0h];rfl;kernel_rfl))
    refine a4l kp10_2 (λn F H=>∃(k:Nat) (l:List (List AV)),n=x.ins.length+1-k∧k≤x.ins.length+1∧F=[(5,grV 0 l),(6,.int .i64 i),(15,sl c.nc (c.nodes.map Nd.enc)),(16,.int .i64 c.nodes.length),(17,.int .i64 i),(25,.int .i64 (x.ins.length+1:Nat)),(26,.int .i64 k)]∧H=grH 2 l∧FlatR l∧l.length≤20*i+k) (x.ins.length+1-0) ?_ ?_
    ·refine⟨_,_,?_,0,[],rfl,f4m _,rfl,rfl,aY,aQ⟩
     (simp+decide only[go_sem,a02,a00,a0g,a0h,h1,h2]<;>rfl)<;>rfl
    ·
     clear aQ aY h1 h2
     rintro n F H ⟨k,l,rfl,hk,rfl,rfl,aY,aQ⟩
     by_cases dw:k<x.ins.length+1
     ·have c2:(k:Int)<((x.ins.length+1:Nat):Int):=by omega
      have fE:=wI1 (n:=k) (by omega);have nU:IntKind.i64.wrap ((k:Int)-1)=(k:Int)-1:=w64 (by omega) (by omega);have h1:=a0f aY;have h2:=λπ=>a0c π aY;have mB:FlatR (l++[[.int .i64 i,.int .i64 ((k:Int)-1)]]):=aY.append (FlatR.cons rfl FlatR.nil);cases l with
      |nil=>
       (repeat first|simp only[ww]|(apply xa;simp+decide only[go_sem,c2,fE,nU,a0g,a0h];rfl;kernel_rfl))
       refine a1j (x.ins.length+1-(k+1)) (by omega) ⟨_,_,?_,k+1,_,rfl,dw,rfl,rfl,mB,by simp;omega⟩
       (simp+decide only[go_sem,a02,a00,a05,a06,e14,f4o]<;>rfl)<;>rfl
      |cons a r=>
       simp only[e12]at aQ;have aE:r.length+1+1≤1000000000:=by omega
       simp only[f9j]at h1;simp only[c10,List.cons.injEq]at h2
       (repeat first|simp only[ww]|(apply xa;simp+decide only[go_sem,c2,fE,nU,a05,a06,aE];rfl;kernel_rfl))
       refine a1j (x.ins.length+1-(k+1)) (by omega) ⟨_,_,?_,k+1,_,rfl,dw,rfl,rfl,mB,by simp;omega⟩
       (simp+decide only[go_sem,a02,a00,a05,a06,f6a,h1,h2]<;>rfl)<;>rfl
     ·obtain rfl:k=x.ins.length+1:=by omega
      have c2:¬(((x.ins.length+1:Nat):Int)<((x.ins.length+1:Nat):Int)):=by omega
      have h1:=a0f aY;have h2:=λπ=>a0c π aY
      (repeat first|simp only[ww]|(apply xa;simp+decide only[go_sem,c2,hw];rfl;kernel_rfl))
      refine a1j (c.nodes.length-(i+1)) (by omega) ⟨_,_,?_,i+1,l,rfl,ah,rfl,rfl,aY,by omega⟩;cases l with
      |nil=>(simp+decide only[go_sem,a02,a00,a0g,a0h]<;>rfl)<;>rfl
      |cons a r=>
       simp only[f9j]at h1;simp only[c10,List.cons.injEq]at h2
       (simp+decide only[go_sem,a02,a00,a05,a06,h1,h2]<;>rfl)<;>rfl
   |cons a r=>
    simp only[f9j]at h1;simp only[c10,List.cons.injEq]at h2
    (repeat first|simp only[ww]|(apply xa;simp+decide only[go_sem,c1,ah,hx,hw,ld,a05,a06];rfl;kernel_rfl))
    refine a4l kp10_2 (λn F H=>∃(k:Nat) (l:List (List AV)),n=x.ins.length+1-k∧k≤x.ins.length+1∧F=[(5,grV 0 l),(6,.int .i64 i),(15,sl c.nc (c.nodes.map Nd.enc)),(16,.int .i64 c.nodes.length),(17,.int .i64 i),(25,.int .i64 (x.ins.length+1:Nat)),(26,.int .i64 k)]∧H=grH 2 l∧FlatR l∧l.length≤20*i+k) (x.ins.length+1-0) ?_ ?_
    ·refine⟨_,_,?_,0,(a::r),rfl,f4m _,rfl,rfl,aY,aQ⟩
     (simp+decide only[go_sem,a02,a00,a05,a06,h1,h2]<;>rfl)<;>rfl
    ·
     clear aQ aY h1 h2
     rintro n F H ⟨k,l,rfl,hk,rfl,rfl,aY,aQ⟩
     by_cases dw:k<x.ins.length+1
     ·have c2:(k:Int)<((x.ins.length+1:Nat):Int):=by omega
      have fE:=wI1 (n:=k) (by omega);have nU:IntKind.i64.wrap ((k:Int)-1)=(k:Int)-1:=w64 (by omega) (by omega);have h1:=a0f aY;have h2:=λπ=>a0c π aY;have mB:FlatR (l++[[.int .i64 i,.int .i64 ((k:Int)-1)]]):=aY.append (FlatR.cons rfl FlatR.nil);cases l with
      |nil=>
       (repeat first|simp only[ww]|(apply xa;simp+decide only[go_sem,c2,fE,nU,a0g,a0h];rfl;kernel_rfl))
       refine a1j (x.ins.length+1-(k+1)) (by omega) ⟨_,_,?_,k+1,_,rfl,dw,rfl,rfl,mB,by simp;omega⟩
       (simp+decide only[go_sem,a02,a00,a05,a06,e14,f4o]<;>rfl)<;>rfl
      |cons a r=>
       simp only[e12]at aQ;have aE:r.length+1+1≤1000000000:=by omega
       simp only[f9j]at h1;simp only[c10,List.cons.injEq]at h2
       (repeat first|simp only[ww]|(apply xa;simp+decide only[go_sem,c2,fE,nU,a05,a06,aE];rfl;kernel_rfl))
       refine a1j (x.ins.length+1-(k+1)) (by omega) ⟨_,_,?_,k+1,_,rfl,dw,rfl,rfl,mB,by simp;omega⟩
       (simp+decide only[go_sem,a02,a00,a05,a06,f6a,h1,h2]<;>rfl)<;>rfl
     ·obtain rfl:k=x.ins.length+1:=by omega
      have c2:¬(((x.ins.length+1:Nat):Int)<((x.ins.length+1:Nat):Int)):=by omega
      have h1:=a0f aY;have h2:=λπ=>a0c π aY
      (repeat first|simp only[ww]|(apply xa;simp+decide only[go_sem,c2,hw];rfl;kernel_rfl))
      refine a1j (c.nodes.length-(i+1)) (by omega) ⟨_,_,?_,i+1,l,rfl,ah,rfl,rfl,aY,by omega⟩;cases l with
      |nil=>(simp+decide only[go_sem,a02,a00,a0g,a0h]<;>rfl)<;>rfl
      |cons a r=>
       simp only[f9j]at h1;simp only[c10,List.cons.injEq]at h2
       (simp+decide only[go_sem,a02,a00,a05,a06,h1,h2]<;>rfl)<;>rfl
  ·obtain rfl:i=c.nodes.length:=by omega
   have c1:¬(c.nodes.length:Int)<c.nodes.length:=by omega
   cases l with
   |nil=>
    have cD:=λH=>b7c (d:=false) H
    (repeat first|simp only[ww]|(apply xa;simp+decide only[go_sem,c1,a0g,a0h,cD];rfl;kernel_rfl))
    refine a5l (vs:=[.nilslice,.int .i64 0]) (r:=(.tuple [.nilslice,.int .i64 0],[])) (by simp+decide only[go_sem]) ?_ ⟨.nilslice,rfl,rfl⟩;simp+decide only[go_sem]
   |cons a r=>
    have cD:=b3p (d:=false) (H:=[some (.row 2 (a::r))]) (b:=0) (n:=r.length+1) aY rfl;have hz:∀m d,a9g m d (a::r)=some (a::r):=λm d=>a12 m d aY
    (repeat first|simp only[ww]|(apply xa;simp+decide only[go_sem,c1,a05,a06,cD];rfl;kernel_rfl))
    refine a5l (vs:=[.slice 0 0 (r.length+1) (some (r.length+1)),.int .i64 0]) (r:=(.tuple [.islice (a::r) (some (r.length+1)),.int .i64 0],[])) (by simp+decide only[go_sem]) ?_ ⟨.islice (a::r) (some (r.length+1)),rfl,rfl⟩;show a1f false 0 (.tuple [.slice 0 0 (r.length+1) (some (r.length+1)),.int .i64 0]) _=_;have fj:List.take (r.length+1) (a::r)=a::r:=f6i (l:=a::r);rw[b25,c3u,a3n,a7a,f9e (f9t 0),f7z,a5z (g1p (by omega:0<12))];have hb:a01 [some (AObj.row 2 (a::r))] 0=some (.row 2 (a::r)):=rfl;rw[hb];simp only[b0d,a0j,f9o,f8j,e12,fj,hz,g1u,f6g,f6l];rfl
theorem b90(c:Cir)(h:c.wf):∃v,∀(d:Bool) (H:a03),a0b L.env d (sem L.env Mf) (.func (.func 10) [] []) [.agg c.enc] H=some (.tuple [v,.int .i64 0],H,[]):=by obtain⟨r,⟨v,h1,rfl⟩,h2⟩:=d7q c h;exact⟨v,λd H=>a04 (by kernel_rfl) (by kernel_rfl) rfl (a5c c) h2 (by simp only[a4a,a07,a1u,h1];rfl)⟩
theorem b4a(l:List Flt):(l.map Flt.enc).flatMap a0l=[]:=a0f (FlatR.map λ_=>rfl)
theorem b7w(π:Nat→Option Nat)(l:List Flt):(l.map Flt.enc).map (λr=>r.map (ren π))=l.map Flt.enc:=a0c π (FlatR.map λ_=>rfl)
theorem e1g(l:List Pat):FlatR (l.map Pat.enc):=FlatR.map λ_=>by simp only[Pat.enc,go_sem]
theorem b49(l:List Pat):(l.map Pat.enc).flatMap a0l=[]:=a0f (e1g l)
theorem b7v(π:Nat→Option Nat)(l:List Pat):(l.map Pat.enc).map (λr=>r.map (ren π))=l.map Pat.enc:=a0c π (e1g l)
theorem f4t(c:Cir)(h:c.wf)(rl rt:Rep)(l:List Flt)(aH:List Pat)(hl:l.length≤65536)(ht:aH.length≤4096)(hf:∀f∈l,FltOk c.nodes f)(hp:∀p∈aH,PatOk c.nodes p) :
 sem L.env Mf 40 [.agg c.enc,sl rl (l.map Flt.enc),sl rt (aH.map Pat.enc)] []=some (.int .i64 0,[]):=by
 have c1:¬(65536:Int)<l.length:=by omega
 have c2:¬(4096:Int)<aH.length:=by omega
 obtain⟨v,hv⟩:=b90 c h;have hv:=hv false;have ko:=λH f hf=>a90 (d:=false) H c h f hf;have jC:=λH p hp=>b0w (d:=false) H c h p hp;simp only[Cir.enc]at hv ko jC⊢
 (refine sv Tryz.f40 ?_;simp only[Tryz.f40,gS])
 (repeat first|simp only[ww]|(apply xa;simp+decide only[go_sem,c1,c2,hv];rfl;kernel_rfl))
 refine a0q (σ:=Nat) kp40_0 (λi=>[(2,sl rt (aH.map Pat.enc)),(3,.ptr 0 0 0),(31,sl rl (l.map Flt.enc)),(32,.int .i64 l.length),(33,.int .i64 i)])
  (λi=>[some (.row 4 [[sl c.nc (c.nodes.map Nd.enc),sl c.mc (c.names.map a13),.nilslice,sl c.oc (c.outs.map a0a)]])]) (λi=>l.length-i) (λi=>i≤l.length) 0 ?_ (f4m _) ?_
 ·(simp+decide only[go_sem,a02,a00,b4a,b7w,b49,b7v]<;>rfl)
 ·intro i hi;by_cases ah:i<l.length
  ·obtain⟨f,hx⟩:∃f,l[i]?=some f:=⟨_,z9e ah⟩
   have i9:=hf f (c11 hx);have c3:(i:Int)<l.length:=by omega
   have hw:=wI1 (n:=i) (by omega);have fe:=λH=>ko H f i9;have c4:¬(f.model:Int)=1:=by rcases i9.model with e|e|e<;>omega
   simp only[Flt.enc]at fe
   (repeat first|simp only[ww]|(apply xa;simp+decide only[go_sem,c3,ah,hx,hw,fe,c4];rfl;kernel_rfl))
   refine a21 (i+1) ?_ (by omega) (by omega)
   (simp+decide only[go_sem,a02,a00,b4a,b7w,b49,b7v]<;>rfl)
  ·obtain rfl:i=l.length:=by omega
   have c3:¬(l.length:Int)<l.length:=by omega
   (repeat first|simp only[ww]|(apply xa;simp+decide only[go_sem,c3];rfl;kernel_rfl))
   refine a0q (σ:=Nat) kp40_2 (λi=>[(3,.ptr 0 0 0),(47,sl rt (aH.map Pat.enc)),(48,.int .i64 aH.length),(49,.int .i64 i)])
    (λi=>[some (.row 4 [[sl c.nc (c.nodes.map Nd.enc),sl c.mc (c.names.map a13),.nilslice,sl c.oc (c.outs.map a0a)]])]) (λi=>aH.length-i) (λi=>i≤aH.length) 0 ?_ (f4m _) ?_
   ·(simp+decide only[go_sem,a02,a00,b4a,b7w,b49,b7v]<;>rfl)
   ·intro i hi;by_cases ah:i<aH.length
    ·obtain⟨p,hx⟩:∃p,aH[i]?=some p:=⟨_,z9e ah⟩
     have qJ:=hp p (c11 hx);have c3:(i:Int)<aH.length:=by omega
     have hw:=wI1 (n:=i) (by omega);have fe:=λH=>jC H p qJ;simp only[Pat.enc]at fe
     (repeat first|simp only[ww]|(apply xa;simp+decide only[go_sem,c3,ah,hx,hw,fe];rfl;kernel_rfl))
     refine a21 (i+1) ?_ (by omega) (by omega)
     (simp+decide only[go_sem,a02,a00,b4a,b7w,b49,b7v]<;>rfl)
    ·obtain rfl:i=aH.length:=by omega
     have c3:¬(aH.length:Int)<aH.length:=by omega
     (repeat first|simp only[ww]|(apply xa;simp+decide only[go_sem,c3];rfl;kernel_rfl))
     (apply fqb;simp+decide only[go_sem,b7w,b7v]<;>rfl)
theorem e3e(c:Cir)(h:c.wf)(rl:Rep)(l:List Flt)(aH:List Pat)(hl:l.length≤65536)(ht:aH.length≤4096)(hf:∀f∈l,FltOk c.nodes f)(hp:∀p∈aH,PatOk c.nodes p) :
 sem L.env Mf 40 [.agg c.enc,sl rl (l.map Flt.enc),.slice 0 0 aH.length (some aH.length)] [some (.row 2 (aH.map Pat.enc))]=some (.int .i64 0,[some (.row 2 (aH.map Pat.enc))]):=by
 have c1:¬(65536:Int)<l.length:=by omega
 have c2:¬(4096:Int)<aH.length:=by omega
 obtain⟨v,hv⟩:=b90 c h;have hv:=hv false;have ko:=λH f hf=>a90 (d:=false) H c h f hf;have jC:=λH p hp=>b0w (d:=false) H c h p hp;simp only[Cir.enc]at hv ko jC⊢
 (refine sv Tryz.f40 ?_;simp only[Tryz.f40,gS])
 (repeat first|simp only[ww]|(apply xa;simp+decide only[go_sem,c1,c2,hv];rfl;kernel_rfl))
 refine a0q (σ:=Nat) kp40_0 (λi=>[(2,.slice 0 0 aH.length (some aH.length)),(3,.ptr 1 0 0),(31,sl rl (l.map Flt.enc)),(32,.int .i64 l.length),(33,.int .i64 i)])
  (λi=>[some (.row 2 (aH.map Pat.enc)),some (.row 4 [[sl c.nc (c.nodes.map Nd.enc),sl c.mc (c.names.map a13),.nilslice,sl c.oc (c.outs.map a0a)]])]) (λi=>l.length-i) (λi=>i≤l.length) 0 ?_ (f4m _) ?_
 ·(simp+decide only[go_sem,a02,a00,b4a,b7w,b49,b7v]<;>rfl)
 ·intro i hi;by_cases ah:i<l.length
  ·obtain⟨f,hx⟩:∃f,l[i]?=some f:=⟨_,z9e ah⟩
   have i9:=hf f (c11 hx);have c3:(i:Int)<l.length:=by omega
   have hw:=wI1 (n:=i) (by omega);have fe:=λH=>ko H f i9;have c4:¬(f.model:Int)=1:=by rcases i9.model with e|e|e<;>omega
   simp only[Flt.enc]at fe
   (repeat first|simp only[ww]|(apply xa;simp+decide only[go_sem,c3,ah,hx,hw,fe,c4];rfl;kernel_rfl))
   refine a21 (i+1) ?_ (by omega) (by omega)
   (simp+decide only[go_sem,a02,a00,b4a,b7w,b49,b7v]<;>rfl)
  ·obtain rfl:i=l.length:=by omega
   have c3:¬(l.length:Int)<l.length:=by omega
   (repeat first|simp only[ww]|(apply xa;simp+decide only[go_sem,c3];rfl;kernel_rfl))
   refine a0q (σ:=Nat) kp40_2 (λi=>[(3,.ptr 1 0 0),(47,.slice 0 0 aH.length (some aH.length)),(48,.int .i64 aH.length),(49,.int .i64 i)])
    (λi=>[some (.row 2 (aH.map Pat.enc)),some (.row 4 [[sl c.nc (c.nodes.map Nd.enc),sl c.mc (c.names.map a13),.nilslice,sl c.oc (c.outs.map a0a)]])]) (λi=>aH.length-i) (λi=>i≤aH.length) 0 ?_ (f4m _) ?_
   ·(simp+decide only[go_sem,a02,a00,b4a,b7w,b49,b7v]<;>rfl)
   ·intro i hi;by_cases ah:i<aH.length
    ·obtain⟨p,hx⟩:∃p,aH[i]?=some p:=⟨_,z9e ah⟩
     have qJ:=hp p (c11 hx);have c3:(i:Int)<aH.length:=by omega
     have hw:=wI1 (n:=i) (by omega);have fe:=λH=>jC H p qJ;simp only[Pat.enc]at fe
     (repeat first|simp only[ww]|(apply xa;simp+decide only[go_sem,c3,ah,hx,hw,fe];rfl;kernel_rfl))
     refine a21 (i+1) ?_ (by omega) (by omega)
     (simp+decide only[go_sem,a02,a00,b4a,b7w,b49,b7v]<;>rfl)
    ·obtain rfl:i=aH.length:=by omega
     have c3:¬(aH.length:Int)<aH.length:=by omega
     (repeat first|simp only[ww]|(apply xa;simp+decide only[go_sem,c3];rfl;kernel_rfl))
     (apply fqb;simp+decide only[go_sem,b7w,b7v]<;>rfl)
set_option maxHeartbeats 200000000
def b2q(c:Cir)(ord:List Nat)(net pin:AV):List AV:=[sl c.nc (c.nodes.map Nd.enc),sl c.mc (c.names.map a13),.nilslice,sl c.oc (c.outs.map a0a),.islice (ord.map a0a) (some c.nodes.length),b7t (kinds c.nodes 0),b7t (kinds c.nodes 14),net,pin]
theorem e2u(n:Int)(w:W):sem L.env Mf 79 [.int .i64 n,.agg w.enc] []=some (.agg w.enc,[]):=by
 (refine sv Tryz.f79 ?_;simp only[Tryz.f79,gS])
 (repeat first|simp only[ww]|(apply xa;simp+decide only[go_sem];rfl;kernel_rfl))
 (apply fqb;simp+decide only[go_sem]<;>rfl)
theorem d6w(n p:Int)(w:W):sem L.env Mf 80 [.int .i64 n,.int .i64 p,.agg w.enc] []=some (.agg w.enc,[]):=by
 (refine sv Tryz.f80 ?_;simp only[Tryz.f80,gS])
 (repeat first|simp only[ww]|(apply xa;simp+decide only[go_sem];rfl;kernel_rfl))
 (apply fqb;simp+decide only[go_sem]<;>rfl)
structure NetF(N:Nat)(f:AV)(g:Nat→W→W):Prop where
 flat:refs f=[]
 call:∀(d:Bool) (H:a03) (n:Nat) (w:W),n<N→a0b L.env d (sem L.env Mf) f [.int .i64 n,.agg w.enc] H=some (.agg (g n w).enc,H,[])
structure PinF(N:Nat)(f:AV)(g:Nat→Nat→W→W):Prop where
 flat:refs f=[]
 call:∀(d:Bool) (H:a03) (n p:Nat) (w:W),n<N→a0b L.env d (sem L.env Mf) f [.int .i64 n,.int .i64 p,.agg w.enc] H=some (.agg (g n p w).enc,H,[])
def net0V:AV:=.func (.func 79) [] []
def pin0V:AV:=.func (.func 80) [] []
theorem f4z(N:Nat):NetF N net0V (hk0:Hk W).net:=⟨rfl,λd H n w _=>a04 (by kernel_rfl) (by kernel_rfl) rfl rfl (e2u n w) rfl⟩
theorem f4r(N:Nat):PinF N pin0V (hk0:Hk W).pin:=⟨rfl,λd H n p w _=>a04 (by kernel_rfl) (by kernel_rfl) rfl rfl (d6w n p w) rfl⟩
theorem b1n(c:Cir)(ord:List Nat)(net pin:AV)(h1:refs net=[])(h2:refs pin=[]):a0l (b2q c ord net pin)=[]:=by simp only[b2q,a07,a2w,a6e,h1,h2,b10,c0g,a1u,f4g]
structure OrdOf(c:Cir)(ord:List Nat):Prop where
 perm:ord.Perm (List.range c.nodes.length)
 topo:e1w c.nodes ord
 call:∀(d:Bool) (H:a03),a0b L.env d (sem L.env Mf) (.func (.func 21) [] []) [.agg c.enc] H=some (.tuple [.islice (ord.map a0a) (some c.nodes.length),.int .i64 0],H,[])
theorem e8l(c:Cir)(h:c.wf):∃ord,OrdOf c ord:=by obtain⟨ord,h1,h2,h3⟩:=c9d c h;exact⟨ord,h1,h2,h3⟩
theorem d6o(c:Cir)(h:c.wf)(ord:List Nat)(hO:OrdOf c ord):∃r:AV×a03,(r=(.agg (b2q c ord net0V pin0V),[]))∧sem L.env Mf 41 [.agg c.enc] []=some r:=by
 have hn:=h.len;have ho:=hO.call false;have hi:=λH=>a8x (d:=true) H c (by omega);have hs:=λH=>a5w (d:=true) H c (by omega);obtain⟨r0,e0⟩:=a3b (kinds c.nodes 0);obtain⟨r1,e1⟩:=a3b (kinds c.nodes 14);rw[e0]at hi;rw[e1]at hs;simp only[Cir.enc]at ho hi hs⊢
 (refine svE Tryz.f41 ?_;simp only[Tryz.f41,gS])
 (repeat first|simp only[ww]|(apply xa;simp+decide only[go_sem,ho,hi,hs];rfl;kernel_rfl))
 refine a5l (vs:=[.agg (b2q c ord net0V pin0V)]) (r:=(.agg (b2q c ord net0V pin0V),[])) (by unfold b2q net0V pin0V;rw[e0,e1];simp+decide only[go_sem]<;>rfl) ?_ rfl;show a1f false 0 (.agg (b2q c ord net0V pin0V)) _=_;unfold b2q net0V pin0V;rw[e0,e1];simp+decide only[go_sem]<;>rfl
theorem d6p(c:Cir)(h:c.wf)(ord:List Nat)(hO:OrdOf c ord):∀(d:Bool) (H:a03),a0b L.env d (sem L.env Mf) (.func (.func 41) [] []) [.agg c.enc] H=some (.agg (b2q c ord net0V pin0V),H,[]):=by obtain⟨r,rfl,h3⟩:=d6o c h ord hO;exact λd H=>a04 (by kernel_rfl) (by kernel_rfl) rfl (a5c c) h3 (by rw[a11];exact b1n _ _ _ _ rfl rfl)
theorem b19(l:List W):FlatR (l.map W.enc):=FlatR.map λ_=>rfl
theorem e4i{m:Nat}{d:AV→Option AV}(l:List W):a9g m d (l.map W.enc)=some (l.map W.enc):=a12 m d (b19 l)
theorem d73(c:Cir)(hc:c.wf)(ord:List Nat)(net pin:AV)(g:Hk W)(h1:refs net=[])(h2:PinF c.nodes.length pin g.pin)(nets:List W)(hl:nets.length=c.nodes.length)(n:Nat)(hn:n<c.nodes.length) :
 sem L.env Mf 83 [.agg (b2q c ord net pin),.slice 0 0 c.nodes.length (some c.nodes.length),.int .i64 n] [some (.row 2 (nets.map W.enc))]=some (sl none ((a0n a31 c.nodes g nets n).map W.enc),[some (.row 2 (nets.map W.enc))]):=by
 have cG:=hc.len;obtain⟨x,hx⟩:∃x,c.nodes[n]?=some x:=⟨_,z9e hn⟩
 have dK:=c11 hx;have cM:=hc.insl dK;have dM:(a0n a31 c.nodes g nets n).length=x.ins.length:=by rw[a2r,a1c hx]
 have h3:=h2.flat;have e1:∀π,ren π net=net:=λπ=>a14 π _ h1;have e2:∀π,ren π pin=pin:=λπ=>a14 π _ h3;obtain⟨r0,e3⟩:=a3b (kinds c.nodes 0);obtain⟨r1,e4⟩:=a3b (kinds c.nodes 14);unfold b2q;rw[e3,e4]
 (refine sv Tryz.f83 ?_;simp only[Tryz.f83,gS])
 (repeat first|simp only[ww]|(apply xa;simp+decide only[go_sem,hx,hn];rfl;kernel_rfl))
 refine a0q (σ:=Nat) kp83_0 (λi=>[(1,.slice 0 0 c.nodes.length (some c.nodes.length)),(2,.int .i64 n),(3,.ptr 1 0 0),(7,grV 2 (((a0n a31 c.nodes g nets n).take i).map W.enc)),(16,sl x.c (x.ins.map a0a)),(17,.int .i64 x.ins.length),(18,.int .i64 i)])
  (λi=>[some (.row 2 (nets.map W.enc)),some (.row 9 [[sl c.nc (c.nodes.map Nd.enc),sl c.mc (c.names.map a13),.nilslice,sl c.oc (c.outs.map a0a),.islice (ord.map a0a) (some c.nodes.length),sl r0 ((kinds c.nodes 0).map a0a),sl r1 ((kinds c.nodes 14).map a0a),net,pin]])]++grH 2 (((a0n a31 c.nodes g nets n).take i).map W.enc)) (λi=>x.ins.length-i) (λi=>i≤x.ins.length) 0 ?_ (f4m _) ?_
 ·(simp+decide only[go_sem,a02,a00,f6b,f4h,a0g,a0h,h1,h3,e1,e2]<;>rfl)
 ·intro i hi;by_cases ah:i<x.ins.length
  ·obtain⟨m,hm⟩:∃m,x.ins[i]?=some m:=⟨_,z9e ah⟩
   have dY:=hc.ins x dK m (c11 hm);obtain⟨w,hw⟩:∃w,nets[m]?=some w:=⟨_,z9e (by omega)⟩
   have c1:(i:Int)<x.ins.length:=by omega
   have bz:=wI1 (n:=i) (by omega);have fK:=λH=>h2.call true H n i w hn;simp only[W.enc]at fK;have hs:=b32 (A:=a31) (h:=g) (nets:=nets) (by rw[a1c hx];exact hm) hw;have bJ:((a0n a31 c.nodes g nets n).take i).length=i:=by rw[f9f];omega
   generalize(a0n a31 c.nodes g nets n).take i=T at hs bJ;cases T with
   |nil=>
    (repeat first|simp only[ww]|(apply xa;simp+decide only[go_sem,c1,ah,hm,dY,hw,bz,fK,hl,f4h,a0g,a0h];rfl;kernel_rfl))
    refine a21 (i+1) ?_ (by omega) (by omega);rw[hs]
    (simp+decide only[go_sem,a02,a00,c10,f4h,e14,a05,a06,f4o,h1,h3,e1,e2,a4y,a7h]<;>rfl)
   |cons a r=>
    simp only[e12]at bJ;have aE:r.length+1+1≤1000000000:=by omega
    (repeat first|simp only[ww]|(apply xa;simp+decide only[go_sem,c1,ah,hm,dY,hw,bz,fK,hl,c10,a05,a06,aE,e12];rfl;kernel_rfl))
    refine a21 (i+1) ?_ (by omega) (by omega);rw[hs]
    (simp+decide only[go_sem,a02,a00,c10,f4h,f6a,a05,a06,e12,h1,h3,e1,e2,a4y,a7h]<;>rfl)
  ·obtain rfl:i=x.ins.length:=by omega
   have c1:¬(x.ins.length:Int)<x.ins.length:=by omega
   rw[f4l (by omega)];generalize a0n a31 c.nodes g nets n=T;cases T with
   |nil=>
    (repeat first|simp only[ww]|(apply xa;simp+decide only[go_sem,c1,f4h,a0g,a0h];rfl;kernel_rfl))
    (apply fqb;simp+decide only[go_sem,a7h,f4h]<;>rfl)
   |cons a r=>
    (repeat first|simp only[ww]|(apply xa;simp+decide only[go_sem,c1,c10,a05,a06];rfl;kernel_rfl))
    (apply fqb;simp+decide only[go_sem,a7h,e4i,c10,a6c]<;>rfl)
theorem c96{d:Bool}{H:a03}{b:Nat}(c:Cir)(hc:c.wf)(ord:List Nat)(net pin:AV)(g:Hk W)(h1:refs net=[])(h2:PinF c.nodes.length pin g.pin)(nets:List W)(hl:nets.length=c.nodes.length)(n:Nat)(hn:n<c.nodes.length)(hb:a01 H b=some (.row 2 (nets.map W.enc))) :
 a0b L.env d (sem L.env Mf) (.func (.func 83) [] []) [.agg (b2q c ord net pin),.slice b 0 c.nodes.length (some c.nodes.length),.int .i64 n] H=some (sl none ((a0n a31 c.nodes g nets n).map W.enc),H,[b]):=by
 have he:=b1n c ord net pin h1 h2.flat;exact a2e (E:=L.env) (ag:=d) (call:=sem L.env Mf) (g:=83) (fs:=[]) (cs:=[]) (ar:=[.agg (b2q c ord net pin),.slice b 0 c.nodes.length (some c.nodes.length),.int .i64 n]) (H:=H) (b:=b) (by kernel_rfl) (by kernel_rfl) rfl hb (a0r (b19 nets)) (FlatO.row (b19 nets)) (by simp only[e14,f4g,a07,a11,he,a87,b4t,a1u]) (au:=[.agg (b2q c ord net pin),.slice 0 0 c.nodes.length (some c.nodes.length),.int .i64 n]) (by simp only[e14,f4g,c10,f4h,a20,a14 _ (.agg (b2q c ord net pin)) (by rw[a11];exact he),a14 _ (.int .i64 (n:Int)) rfl]) (d73 c hc ord net pin g h1 h2 nets hl n hn) (a2w _ _)
theorem d02{d:Bool}(H:a03)(r:Rep)(k:Nat)(hk:k<16)(l:List W)(hl:l.length<1000):a0b L.env d (sem L.env Mf) (.func (.func 82) [] []) [.int .u8 k,sl r (l.map W.enc)] H=some (.agg (a58 k l).enc,H,[]):=a04 (by kernel_rfl) (by kernel_rfl) rfl (by simp only[e14,f4g,a07,go_sem]) (d8v r k hk l hl) rfl
theorem a5i{nodes:List Nd}{k i n:Nat}(h:(kinds nodes k)[i]?=some n):n<nodes.length∧a0e nodes n=k:=by have:=c11 h;unfold kinds a40 at this;rw[f9s]at this;exact⟨by simpa using this.1,by simpa using this.2⟩
def a1x(c:Cir)(ord:List Nat):Sim:=⟨c.nodes,ord,kinds c.nodes 0,kinds c.nodes 14,c.outs⟩
theorem e8e(c:Cir)(hc:c.wf)(ord:List Nat)(ho:∀n∈ord,n<c.nodes.length)(bW:ord.length≤1000)(net pin:AV)(g:Hk W)(h0:NetF c.nodes.length net g.net)(h2:PinF c.nodes.length pin g.pin)(ri rs:Rep)(vi vs:List W)(ke:vi.length=(kinds c.nodes 0).length)(fF:vs.length=(kinds c.nodes 14).length) :
 sem L.env Mf 43 [.agg (b2q c ord net pin),sl ri (vi.map W.enc),sl rs (vs.map W.enc)] []=some (.tuple [.islice (((a1x c ord).nets a31 g vi vs).map W.enc) (some c.nodes.length),sl none (((a1x c ord).seen a31 g ((a1x c ord).nets a31 g vi vs)).map W.enc)],[]):=by
 have cG:=hc.len;have h1:=h0.flat;have h3:=h2.flat;have e1:∀π,ren π net=net:=λπ=>a14 π _ h1;have e2:∀π,ren π pin=pin:=λπ=>a14 π _ h3;obtain⟨r0,e3⟩:=a3b (kinds c.nodes 0);obtain⟨r1,e4⟩:=a3b (kinds c.nodes 14);have hk0:=a3h c.nodes 0;have gp:=a3h c.nodes 14;have aE:c.nodes.length≤1000000000:=by omega
 have dp:=λ(H:a03) (b:Nat) nets hl n hn hb=>c96 (d:=false) (H:=H) (b:=b) c hc ord net pin g h1 h2 nets hl n hn hb;unfold b2q at dp⊢;rw[e3,e4]at dp⊢
 (refine sv Tryz.f43 ?_;simp only[Tryz.f43,gS])
 (repeat first|simp only[ww]|(apply xa;simp+decide only[go_sem,aE];rfl;kernel_rfl))
 refine a0q (σ:=Nat) kp43_0 (λi=>[(1,sl ri (vi.map W.enc)),(2,sl rs (vs.map W.enc)),(3,.ptr 0 0 0),(6,.slice 1 0 c.nodes.length (some c.nodes.length)),(7,.nilslice),(25,sl r0 ((kinds c.nodes 0).map a0a)),(26,.int .i64 (kinds c.nodes 0).length),(27,.int .i64 i)])
  (λi=>[some (.row 9 [[sl c.nc (c.nodes.map Nd.enc),sl c.mc (c.names.map a13),.nilslice,sl c.oc (c.outs.map a0a),.islice (ord.map a0a) (some c.nodes.length),sl r0 ((kinds c.nodes 0).map a0a),sl r1 ((kinds c.nodes 14).map a0a),net,pin]]),some (.row 2 ((a1l (List.replicate c.nodes.length zW) ((kinds c.nodes 0).take i) (vi.take i)).map W.enc))]) (λi=>(kinds c.nodes 0).length-i) (λi=>i≤(kinds c.nodes 0).length) 0 ?_ (f4m _) ?_
 ·rw[f6b,f6b,show a1l (List.replicate c.nodes.length zW) [] []=List.replicate c.nodes.length zW from rfl]
  (simp+decide only[go_sem,a02,a00,h1,h3,e1,e2,a4y,a7h,zW]<;>rfl)<;>rfl
 ·intro i hi;have aQ:=a2g ((kinds c.nodes 0).take i) (vi.take i) (List.replicate c.nodes.length zW);rw[List.length_replicate]at aQ;by_cases ah:i<(kinds c.nodes 0).length
  ·obtain⟨n,hn⟩:∃n,(kinds c.nodes 0)[i]?=some n:=⟨_,z9e ah⟩
   obtain⟨w,hw⟩:∃w,vi[i]?=some w:=⟨_,z9e (by omega)⟩
   have bp:=(a5i hn).1;have hs:=a6u (nets:=List.replicate c.nodes.length zW) hn hw;have c1:(i:Int)<(kinds c.nodes 0).length:=by omega
   have bz:=wI1 (n:=i) (by omega);have eI:i<vi.length:=by omega
   generalize a1l (List.replicate c.nodes.length zW) ((kinds c.nodes 0).take i) (vi.take i)=N at hs aQ;obtain⟨w0,bM⟩:∃w,N[n]?=some w:=⟨_,z9e (by omega)⟩
   have az:(N.map W.enc).set n [u64 w.one,u64 w.zero]=(N.set n w).map W.enc:=by rw[f9n];rfl
   (repeat first|simp only[ww]|(apply xa;simp+decide only[go_sem,c1,ah,hn,hw,bp,bz,eI,aQ,bM,az];rfl;kernel_rfl))
   refine a21 (i+1) ?_ (by omega) (by omega);rw[hs]
   (simp+decide only[go_sem,a02,a00,h1,h3,e1,e2,a4y,a7h]<;>rfl)<;>rfl
  have cY:i=(kinds c.nodes 0).length:=by omega
  subst cY;have c1:¬((kinds c.nodes 0).length:Int)<(kinds c.nodes 0).length:=by omega
  rw[f6i,f4l (by omega)]at aQ⊢;generalize hN0:a1l (List.replicate c.nodes.length zW) (kinds c.nodes 0) vi=N0 at aQ⊢
  (repeat first|simp only[ww]|(apply xa;simp+decide only[go_sem,c1];rfl;kernel_rfl))
  refine a0q (σ:=Nat) kp43_2 (λi=>[(2,sl rs (vs.map W.enc)),(3,.ptr 0 0 0),(6,.slice 1 0 c.nodes.length (some c.nodes.length)),(7,.nilslice),(41,sl r1 ((kinds c.nodes 14).map a0a)),(42,.int .i64 (kinds c.nodes 14).length),(43,.int .i64 i)])
   (λi=>[some (.row 9 [[sl c.nc (c.nodes.map Nd.enc),sl c.mc (c.names.map a13),.nilslice,sl c.oc (c.outs.map a0a),.islice (ord.map a0a) (some c.nodes.length),sl r0 ((kinds c.nodes 0).map a0a),sl r1 ((kinds c.nodes 14).map a0a),net,pin]]),some (.row 2 ((a1l N0 ((kinds c.nodes 14).take i) (vs.take i)).map W.enc))]) (λi=>(kinds c.nodes 14).length-i) (λi=>i≤(kinds c.nodes 14).length) 0 ?_ (f4m _) ?_
  ·rw[f6b,f6b,show a1l N0 [] []=N0 from rfl]
   (simp+decide only[go_sem,a02,a00,h1,h3,e1,e2,a4y,a7h]<;>rfl)<;>rfl
  ·intro i hi;have d9:=a2g ((kinds c.nodes 14).take i) (vs.take i) N0;rw[aQ]at d9;by_cases ah:i<(kinds c.nodes 14).length
   ·obtain⟨n,hn⟩:∃n,(kinds c.nodes 14)[i]?=some n:=⟨_,z9e ah⟩
    obtain⟨w,hw⟩:∃w,vs[i]?=some w:=⟨_,z9e (by omega)⟩
    have bp:=(a5i hn).1;have hs:=a6u (nets:=N0) hn hw;have c1:(i:Int)<(kinds c.nodes 14).length:=by omega
    have bz:=wI1 (n:=i) (by omega);have eI:i<vs.length:=by omega
    generalize a1l N0 ((kinds c.nodes 14).take i) (vs.take i)=N at hs d9;obtain⟨w0,bM⟩:∃w,N[n]?=some w:=⟨_,z9e (by omega)⟩
    have az:(N.map W.enc).set n [u64 w.one,u64 w.zero]=(N.set n w).map W.enc:=by rw[f9n];rfl
    (repeat first|simp only[ww]|(apply xa;simp+decide only[go_sem,c1,ah,hn,hw,bp,bz,eI,d9,bM,az];rfl;kernel_rfl))
    refine a21 (i+1) ?_ (by omega) (by omega);rw[hs]
    (simp+decide only[go_sem,a02,a00,h1,h3,e1,e2,a4y,a7h]<;>rfl)<;>rfl
   have cY:i=(kinds c.nodes 14).length:=by omega
   subst cY;have c1:¬((kinds c.nodes 14).length:Int)<(kinds c.nodes 14).length:=by omega
   rw[f6i,f4l (by omega)]at d9⊢;generalize hN1:a1l N0 (kinds c.nodes 14) vs=N1 at d9⊢
   (repeat first|simp only[ww]|(apply xa;simp+decide only[go_sem,c1];rfl;kernel_rfl))
   refine a0q (σ:=Nat) kp43_4 (λi=>[(3,.ptr 0 0 0),(6,.slice 1 0 c.nodes.length (some c.nodes.length)),(7,.nilslice),(57,.islice (ord.map a0a) (some c.nodes.length)),(58,.int .i64 ord.length),(59,.int .i64 i)])
    (λi=>[some (.row 9 [[sl c.nc (c.nodes.map Nd.enc),sl c.mc (c.names.map a13),.nilslice,sl c.oc (c.outs.map a0a),.islice (ord.map a0a) (some c.nodes.length),sl r0 ((kinds c.nodes 0).map a0a),sl r1 ((kinds c.nodes 14).map a0a),net,pin]]),some (.row 2 (((ord.take i).foldl (Pc.stepG a31 c.nodes g) N1).map W.enc))]) (λi=>ord.length-i) (λi=>i≤ord.length) 0 ?_ (f4m _) ?_
   ·rw[f6b,List.foldl_nil]
    (simp+decide only[go_sem,a02,a00,h1,h3,e1,e2,a4y,a7h]<;>rfl)<;>rfl
   ·intro i hi;have dk:=a6q (A:=a31) (nodes:=c.nodes) (h:=g) (ord.take i) N1;rw[d9]at dk;by_cases ah:i<ord.length
    ·obtain⟨n,hn⟩:∃n,ord[i]?=some n:=⟨_,z9e ah⟩
     have bp:=ho n (c11 hn);obtain⟨x,hx⟩:∃x,c.nodes[n]?=some x:=⟨_,z9e bp⟩
     have dK:=c11 hx;have hs:=b6t (A:=a31) (nodes:=c.nodes) (h:=g) (nets:=N1) hn;have c1:(i:Int)<ord.length:=by omega
     have bz:=wI1 (n:=i) (by omega);have k14:=hc.kind x dK;have cM:=hc.insl dK;generalize(ord.take i).foldl (Pc.stepG a31 c.nodes g) N1=N at hs dk;obtain⟨w0,bM⟩:∃w,N[n]?=some w:=⟨_,z9e (by omega)⟩
     have kJ:=a0y hx;by_cases hk:x.kind≠0∧x.kind≠14
     ·have c2:¬(x.kind:Int)=0:=by omega
      have c3:¬(x.kind:Int)=14:=by omega
      have dM:(a0n a31 c.nodes g N n).length=x.ins.length:=by rw[a2r,a1c hx]
      have iV:=dp [some (.row 9 [[sl c.nc (c.nodes.map Nd.enc),sl c.mc (c.names.map a13),.nilslice,sl c.oc (c.outs.map a0a),.islice (ord.map a0a) (some c.nodes.length),sl r0 ((kinds c.nodes 0).map a0a),sl r1 ((kinds c.nodes 14).map a0a),net,pin]]),some (.row 2 (N.map W.enc))] 1 N dk n bp rfl;have eh:=λH=>d02 (d:=false) H none x.kind (by omega) (a0n a31 c.nodes g N n) (by omega);have br:Pc.stepG a31 c.nodes g N n=N.set n (g.net n (a58 x.kind (a0n a31 c.nodes g N n))):=by unfold Pc.stepG;rw[kJ,f6e hk];rfl
      rw[br]at hs;generalize a58 x.kind (a0n a31 c.nodes g N n)=v at eh hs;generalize a0n a31 c.nodes g N n=R at iV eh dM;have ji:=λH=>h0.call true H n v bp;have az:(N.map W.enc).set n [u64 v.one,u64 v.zero]=(N.set n v).map W.enc:=by rw[f9n];rfl
      have u5:(N.set n v)[n]?=some v:=by rw[f6k];simp;omega
      have mn:(N.set n v).length=c.nodes.length:=by rw[f6j];exact dk
      generalize hw:g.net n v=w at hs ji;have gi:((N.set n v).map W.enc).set n [u64 w.one,u64 w.zero]=(N.set n w).map W.enc:=by rw[show [u64 w.one,u64 w.zero]=W.enc w from rfl,←f9n,List.set_set]
      simp only[W.enc]at ji eh
      (repeat first|simp only[ww]|(apply xa;simp+decide only[go_sem,c1,ah,hn,bp,hx,bz,c2,c3,dk,bM,iV,eh,az,u5,mn,ji,gi];rfl;kernel_rfl))
      refine a21 (i+1) ?_ (by omega) (by omega);rw[hs]
      (simp+decide only[go_sem,a02,a00,h1,h3,e1,e2,a4y,a7h]<;>rfl)<;>rfl
     ·have br:Pc.stepG a31 c.nodes g N n=N.set n (g.net n w0):=by
       unfold Pc.stepG;rw[kJ,f4n hk,List.getD,bM];rfl
      rw[br]at hs;have ji:=λH=>h0.call true H n w0 bp;generalize hw:g.net n w0=w at hs ji;have gi:(N.map W.enc).set n [u64 w.one,u64 w.zero]=(N.set n w).map W.enc:=by rw[f9n];rfl
      simp only[W.enc]at ji;have dE:x.kind=0∨x.kind=14:=by omega
      rcases dE with dE|dE
      ·have c2:decide ((x.kind:Int)=0)=true:=f8b (by omega)
       (repeat first|simp only[ww]|(apply xa;simp+decide only[go_sem,c1,ah,hn,bp,hx,bz,c2,dk,bM,ji,gi];rfl;kernel_rfl))
       refine a21 (i+1) ?_ (by omega) (by omega);rw[hs]
       (simp+decide only[go_sem,a02,a00,h1,h3,e1,e2,a4y,a7h]<;>rfl)<;>rfl
      ·have c2:¬(x.kind:Int)=0:=by omega
       have c3:decide ((x.kind:Int)=14)=true:=f8b (by omega)
       (repeat first|simp only[ww]|(apply xa;simp+decide only[go_sem,c1,ah,hn,bp,hx,bz,c2,c3,dk,bM,ji,gi];rfl;kernel_rfl))
       refine a21 (i+1) ?_ (by omega) (by omega);rw[hs]
       (simp+decide only[go_sem,a02,a00,h1,h3,e1,e2,a4y,a7h]<;>rfl)<;>rfl
    have cY:i=ord.length:=by omega
    subst cY;have c1:¬(ord.length:Int)<ord.length:=by omega
    rw[f6i]at dk⊢;have tJ:(a1x c ord).nets a31 g vi vs=ord.foldl (Pc.stepG a31 c.nodes g) N1:=by rw[←hN1,←hN0];rfl
    rw[tJ];generalize ord.foldl (Pc.stepG a31 c.nodes g) N1=N at dk⊢;clear hN0 hN1 aQ d9 tJ aE
    (repeat first|simp only[ww]|(apply xa;simp+decide only[go_sem,c1];rfl;kernel_rfl))
    refine a0q (σ:=Nat) kp43_6 (λi=>[(3,.ptr 0 0 0),(6,.slice 1 0 c.nodes.length (some c.nodes.length)),(7,grV 2 (((c.outs.take i).map λn=>N.getD n zW).map W.enc)),(99,sl c.oc (c.outs.map a0a)),(100,.int .i64 c.outs.length),(101,.int .i64 i)])
     (λi=>[some (.row 9 [[sl c.nc (c.nodes.map Nd.enc),sl c.mc (c.names.map a13),.nilslice,sl c.oc (c.outs.map a0a),.islice (ord.map a0a) (some c.nodes.length),sl r0 ((kinds c.nodes 0).map a0a),sl r1 ((kinds c.nodes 14).map a0a),net,pin]]),some (.row 2 (N.map W.enc))]++grH 2 (((c.outs.take i).map λn=>N.getD n zW).map W.enc)) (λi=>c.outs.length-i) (λi=>i≤c.outs.length) 0 ?_ (f4m _) ?_
    ·(simp+decide only[go_sem,a02,a00,f6b,f4h,a0g,a0h,h1,h3,e1,e2,a4y,a7h]<;>rfl)<;>rfl
    ·intro i hi;have ou:=hc.outl;by_cases ah:i<c.outs.length
     ·obtain⟨n,hn⟩:∃n,c.outs[i]?=some n:=⟨_,z9e ah⟩
      have bp:=hc.outs n (c11 hn);obtain⟨w,hw⟩:∃w,N[n]?=some w:=⟨_,z9e (by omega)⟩
      have hs:(c.outs.take (i+1)).map (λn=>N.getD n zW)=(c.outs.take i).map (λn=>N.getD n zW)++[w]:=by rw[a0v hn,f6c];simp[hw]
      have c1:(i:Int)<c.outs.length:=by omega
      have bz:=wI1 (n:=i) (by omega);have bJ:((c.outs.take i).map λn=>N.getD n zW).length=i:=by rw[f4j,f9f];omega
      generalize(c.outs.take i).map (λn=>N.getD n zW)=T at hs bJ;cases T with
      |nil=>
       (repeat first|simp only[ww]|(apply xa;simp+decide only[go_sem,c1,ah,hn,bp,hw,bz,dk,f4h,a0g,a0h];rfl;kernel_rfl))
       refine a21 (i+1) ?_ (by omega) (by omega);rw[hs]
       (simp+decide only[go_sem,a02,a00,c10,f4h,e14,a05,a06,f4o,h1,h3,e1,e2,a4y,a7h]<;>rfl)<;>rfl
      |cons a r=>
       simp only[e12]at bJ;have aE:r.length+1+1≤1000000000:=by omega
       (repeat first|simp only[ww]|(apply xa;simp+decide only[go_sem,c1,ah,hn,bp,hw,bz,dk,aE,c10,a05,a06,e12];rfl;kernel_rfl))
       refine a21 (i+1) ?_ (by omega) (by omega);rw[hs]
       (simp+decide only[go_sem,a02,a00,c10,f4h,f6a,a05,a06,e12,h1,h3,e1,e2,a4y,a7h]<;>rfl)<;>rfl
     have cY:i=c.outs.length:=by omega
     subst cY;have c1:¬(c.outs.length:Int)<c.outs.length:=by omega
     rw[f6i];have iu:(a1x c ord).seen a31 g N=(c.outs.map λn=>N.getD n zW)++(kinds c.nodes 14).map (λn=>(a0n a31 c.nodes g N n).getD 0 zW):=rfl;rw[iu];have g8:(c.outs.map λn=>N.getD n zW).length=c.outs.length:=f4j ..;generalize c.outs.map (λn=>N.getD n zW)=O at g8
     (repeat first|simp only[ww]|(apply xa;simp+decide only[go_sem,c1];rfl;kernel_rfl))
     refine a0q (σ:=Nat) kp43_8 (λi=>[(3,.ptr 0 0 0),(6,.slice 1 0 c.nodes.length (some c.nodes.length)),(7,grV 2 ((O++((kinds c.nodes 14).take i).map λn=>(a0n a31 c.nodes g N n).getD 0 zW).map W.enc)),(114,sl r1 ((kinds c.nodes 14).map a0a)),(115,.int .i64 (kinds c.nodes 14).length),(116,.int .i64 i)])
      (λi=>[some (.row 9 [[sl c.nc (c.nodes.map Nd.enc),sl c.mc (c.names.map a13),.nilslice,sl c.oc (c.outs.map a0a),.islice (ord.map a0a) (some c.nodes.length),sl r0 ((kinds c.nodes 0).map a0a),sl r1 ((kinds c.nodes 14).map a0a),net,pin]]),some (.row 2 (N.map W.enc))]++grH 2 ((O++((kinds c.nodes 14).take i).map λn=>(a0n a31 c.nodes g N n).getD 0 zW).map W.enc)) (λi=>(kinds c.nodes 14).length-i) (λi=>i≤(kinds c.nodes 14).length) 0 ?_ (f4m _) ?_
     ·rw[f6b,f4h,f4g];cases O with
      |nil=>(simp+decide only[go_sem,a02,a00,f4h,a0g,a0h,h1,h3,e1,e2,a4y,a7h]<;>rfl)<;>rfl
      |cons a r=>(simp+decide only[go_sem,a02,a00,c10,a05,a06,h1,h3,e1,e2,a4y,a7h]<;>rfl)<;>rfl
     ·intro i hi;by_cases ah:i<(kinds c.nodes 14).length
      ·obtain⟨n,hn⟩:∃n,(kinds c.nodes 14)[i]?=some n:=⟨_,z9e ah⟩
       obtain⟨bp,lD⟩:=a5i hn;obtain⟨x,hx⟩:∃x,c.nodes[n]?=some x:=⟨_,z9e bp⟩
       rw[a0y hx]at lD;have aG:=hc.lo x (c11 hx);rw[lD]at aG;have dM:(a0n a31 c.nodes g N n).length=x.ins.length:=by rw[a2r,a1c hx]
       have mo:1≤x.ins.length:=aG;have iV:=λX=>dp (some (.row 9 [[sl c.nc (c.nodes.map Nd.enc),sl c.mc (c.names.map a13),.nilslice,sl c.oc (c.outs.map a0a),.islice (ord.map a0a) (some c.nodes.length),sl r0 ((kinds c.nodes 0).map a0a),sl r1 ((kinds c.nodes 14).map a0a),net,pin]])::some (.row 2 (N.map W.enc))::X) 1 N dk n bp rfl;obtain⟨w,hw⟩:∃w,(a0n a31 c.nodes g N n)[0]?=some w:=⟨_,z9e (by omega)⟩
       have hs:(O++((kinds c.nodes 14).take (i+1)).map λn=>(a0n a31 c.nodes g N n).getD 0 zW)=(O++((kinds c.nodes 14).take i).map λn=>(a0n a31 c.nodes g N n).getD 0 zW)++[w]:=by rw[a0v hn,f6c,f4i];simp[hw]
       have c1:(i:Int)<(kinds c.nodes 14).length:=by omega
       have bz:=wI1 (n:=i) (by omega);have eA:0<(a0n a31 c.nodes g N n).length:=by omega
       have bJ:(O++((kinds c.nodes 14).take i).map λn=>(a0n a31 c.nodes g N n).getD 0 zW).length=c.outs.length+i:=by rw[f5z,f4j,f9f];omega
       generalize a0n a31 c.nodes g N n=R at iV hw eA;have lm:Ax.rowAt (R.map W.enc) 0=some [u64 w.one,u64 w.zero]:=by have h:=Ax.rowAt_nat (R.map W.enc) 0;rw[f4q,hw]at h;exact h
       generalize(O++((kinds c.nodes 14).take i).map λn=>(a0n a31 c.nodes g N n).getD 0 zW)=T at hs bJ;cases T with
       |nil=>
        (repeat first|simp only[ww]|(apply xa;simp+decide only[go_sem,c1,ah,hn,bp,hw,bz,dk,iV,eA,lm,f4h,a0g,a0h];rfl;kernel_rfl))
        refine a21 (i+1) ?_ (by omega) (by omega);rw[hs]
        (simp+decide only[go_sem,a02,a00,c10,f4h,e14,a05,a06,f4o,h1,h3,e1,e2,a4y,a7h]<;>rfl)<;>rfl
       |cons a r=>
        simp only[e12]at bJ;have aE:r.length+1+1≤1000000000:=by omega
        (repeat first|simp only[ww]|(apply xa;simp+decide only[go_sem,c1,ah,hn,bp,hw,bz,dk,iV,eA,lm,aE,c10,a05,a06,e12];rfl;kernel_rfl))
        refine a21 (i+1) ?_ (by omega) (by omega);rw[hs]
        (simp+decide only[go_sem,a02,a00,c10,f4h,f6a,a05,a06,e12,h1,h3,e1,e2,a4y,a7h]<;>rfl)<;>rfl
      have cY:i=(kinds c.nodes 14).length:=by omega
      subst cY;have c1:¬((kinds c.nodes 14).length:Int)<(kinds c.nodes 14).length:=by omega
      rw[f6i];generalize(O++(kinds c.nodes 14).map λn=>(a0n a31 c.nodes g N n).getD 0 zW)=T;cases T with
      |nil=>
       (repeat first|simp only[ww]|(apply xa;simp+decide only[go_sem,c1,f4h,a0g,a0h];rfl;kernel_rfl))
       rw[←dk]
       (apply fqb;simp+decide only[go_sem,e4i,f4h]<;>rfl)
      |cons a r=>
       (repeat first|simp only[ww]|(apply xa;simp+decide only[go_sem,c1,c10,a05,a06];rfl;kernel_rfl))
       rw[←dk]
       (apply fqb;simp+decide only[go_sem,e4i,c10,a6c]<;>rfl)
theorem c6f(ca cb:Rep)(a b:List W)(bu:a.length≤b.length)(hl:a.length<1000000):sem L.env Mf 45 [sl ca (a.map W.enc),sl cb (b.map W.enc)] []=some (u64 (c25 a b 0),[]):=by
 rw[←d4x a b 0 bu]
 (refine sv Tryz.f45 ?_;simp only[Tryz.f45,gS])
 (repeat first|simp only[ww]|(apply xa;simp+decide only[go_sem];rfl;kernel_rfl))
 refine a0q (σ:=Nat) kp45_0 (λi=>[(0,sl ca (a.map W.enc)),(1,sl cb (b.map W.enc)),(4,u64 (c25 (a.take i) (b.take i) 0)),(9,.int .i64 a.length),(10,.int .i64 i)]) (λ_=>[]) (λi=>a.length-i) (λi=>i≤a.length) 0 ?_ (f4m _) ?_
 ·have e:c25 (a.take 0) (b.take 0) 0=BitVec.ofInt 64 0:=by rw[f6b];rfl
  (simp+decide only[go_sem,a02,a00,e]<;>rfl)<;>rfl
 ·intro i hi;by_cases ah:i<a.length
  ·obtain⟨x,hx⟩:∃x,a[i]?=some x:=⟨_,z9e ah⟩
   obtain⟨y,hy⟩:∃y,b[i]?=some y:=⟨_,z9e (by omega)⟩
   have c1:(i:Int)<a.length:=by omega
   have km:i<b.length:=by omega
   have hw:=wI1 (n:=i) (by omega);have hs:=d4w hx hy
   (repeat first|simp only[ww]|(apply xa;simp+decide only[go_sem,c1,ah,hx,hy,km,hw];rfl;kernel_rfl))
   refine a21 (i+1) ?_ (by omega) (by omega);rw[hs]
   (simp+decide only[go_sem,a02,a00,ctr]<;>rfl)
  ·obtain rfl:i=a.length:=by omega
   have c1:¬(a.length:Int)<a.length:=by omega
   rw[f6i]
   (repeat first|simp only[ww]|(apply xa;simp+decide only[go_sem,c1];rfl;kernel_rfl))
   (apply fqb;simp+decide only[go_sem]<;>rfl)
theorem c1m{d:Bool}(H:a03)(ca cb:Rep)(a b:List W)(bu:a.length≤b.length)(hl:a.length<1000000):a0b L.env d (sem L.env Mf) (.func (.func 45) [] []) [sl ca (a.map W.enc),sl cb (b.map W.enc)] H=some (u64 (c25 a b 0),H,[]):=a04 (by kernel_rfl) (by kernel_rfl) rfl (by simp only[e14,f4g,a07,go_sem]) (c6f ca cb a b bu hl) rfl
theorem b9j{d:Bool}{H:a03}{b:Nat}(k:Nat)(hk:k<16)(l:List W)(hl:l.length<1000){n:Int}(hn:n=k){m:Nat}(hm:m=l.length)(hb:a01 H b=some (.row 2 (l.map W.enc))):a0b L.env d (sem L.env Mf) (.func (.func 82) [] []) [.int .u8 n,.slice b 0 m (some m)] H=some (.agg (a58 k l).enc,H,[b]):=by subst hn;subst hm;exact a2e (fs:=[]) (cs:=[]) (ar:=[.int .u8 k,.slice b 0 l.length (some l.length)]) (by kernel_rfl) (by kernel_rfl) rfl hb (a0r (b19 l)) (FlatO.row (b19 l)) rfl (au:=[.int .u8 k,.slice 0 0 l.length (some l.length)]) (by simp only[e14,f4g,c10,f4h,a20];rfl) (d8u k hk l hl) rfl
theorem d0l(nodes:List Nd)(f:Flt)(hf:FltOk nodes f)(hm:f.model≠0)(r:Rep)(good:List W)(hg:good.length=nodes.length):sem L.env Mf 85 [.agg f.enc,sl r (good.map W.enc)] []=some (.agg (a18 a31 good f).enc,[]):=by
 have hn:=hf.node;have ho:=hf.other;obtain⟨a,ha⟩:∃a,good[f.node]?=some a:=⟨_,z9e (by omega)⟩
 obtain⟨b,hb⟩:∃b,good[f.other]?=some b:=⟨_,z9e (by omega)⟩
 have cG:f.node<good.length:=by omega
 have bW:f.other<good.length:=by omega
 have fN:f.model=2∨f.model=3:=by rcases hf.model with e|e|e;exact absurd e hm;exact .inl e;exact .inr e
 rcases fN with e|e
 ·have c1:¬(((2:Nat):Int)=3):=by decide
  by_cases hv:f.value=0
  ·have hF:a18 a31 good f=a58 5 [a,b]:=by
    unfold a18;rw[f4n hm,f4n (by omega),f6e hv];simp[List.getD,ha,hb];rfl
   rw[hF];have he:=λX Y=>b9j (d:=true) (H:=[X,Y,some (.row 2 ([a,b].map W.enc))]) (b:=2) 5 (by omega) [a,b] (by simp) (n:=5) rfl (m:=2) rfl rfl;generalize a58 5 [a,b]=v at he;simp only[c10,f4h,W.enc]at he;simp only[Flt.enc,e,hv]
   (refine sv Tryz.f85 ?_;simp only[Tryz.f85,gS])
   (repeat first|simp only[ww]|(apply xa;simp+decide only[go_sem,ha,hb,cG,bW,he];rfl;kernel_rfl))
   (apply fqb;simp+decide only[go_sem]<;>rfl)
  ·have cv:¬(f.value:Int)=0:=by omega
   have hF:a18 a31 good f=a58 7 [a,b]:=by unfold a18;rw[f4n hm,f4n (by omega),f4n hv];simp[List.getD,ha,hb];rfl
   rw[hF];have he:=λX Y=>b9j (d:=true) (H:=[X,Y,some (.row 2 ([a,b].map W.enc))]) (b:=2) 7 (by omega) [a,b] (by simp) (n:=7) rfl (m:=2) rfl rfl;generalize a58 7 [a,b]=v at he;simp only[c10,f4h,W.enc]at he;simp only[Flt.enc,e]
   (refine sv Tryz.f85 ?_;simp only[Tryz.f85,gS])
   (repeat first|simp only[ww]|(apply xa;simp+decide only[go_sem,ha,hb,cG,bW,he,cv];rfl;kernel_rfl))
   (apply fqb;simp+decide only[go_sem]<;>rfl)
 ·have hF:a18 a31 good f=b:=by
   unfold a18;rw[f4n hm,f6e e];simp[List.getD,hb]
  rw[hF];simp only[Flt.enc,e]
  (refine sv Tryz.f85 ?_;simp only[Tryz.f85,gS])
  (repeat first|simp only[ww]|(apply xa;simp+decide only[go_sem,hb,bW];rfl;kernel_rfl))
  (apply fqb;simp+decide only[go_sem]<;>rfl)
theorem c4e{d:Bool}(H:a03)(nodes:List Nd)(f:Flt)(hf:FltOk nodes f)(hm:f.model≠0)(r:Rep)(good:List W)(hg:good.length=nodes.length):a0b L.env d (sem L.env Mf) (.func (.func 85) [] []) [.agg f.enc,sl r (good.map W.enc)] H=some (.agg (a18 a31 good f).enc,H,[]):=a04 (by kernel_rfl) (by kernel_rfl) rfl (by simp only[e14,f4g,a07,a11,Flt.enc,go_sem]) (d0l nodes f hf hm r good hg) rfl
/- one fault in all lanes -/
theorem c75{d:Bool}(H:a03)(c:Cir)(hc:c.wf)(ord:List Nat)(ho:∀n∈ord,n<c.nodes.length)(bW:ord.length≤1000)(net pin:AV)(g:Hk W)(h0:NetF c.nodes.length net g.net)(h2:PinF c.nodes.length pin g.pin)(ri rs:Rep)(vi vs:List W)(ke:vi.length=(kinds c.nodes 0).length)(fF:vs.length=(kinds c.nodes 14).length) :
 a0b L.env d (sem L.env Mf) (.func (.func 43) [] []) [.agg (b2q c ord net pin),sl ri (vi.map W.enc),sl rs (vs.map W.enc)] H=some (.tuple [.islice (((a1x c ord).nets a31 g vi vs).map W.enc) (some c.nodes.length),sl none (((a1x c ord).seen a31 g ((a1x c ord).nets a31 g vi vs)).map W.enc)],H,[]):=
 a04 (by kernel_rfl) (by kernel_rfl) rfl (by simp only[e14,f4g,a07,a11,b1n c ord net pin h0.flat h2.flat,go_sem]) (e8e c hc ord ho bW net pin g h0 h2 ri rs vi vs ke fF) (by simp only[a4a,a07,b10,a2w,a1u,f4g])
theorem c07(c:Cir)(ord:List Nat)(h:Hk W)(nets:List W):((a1x c ord).seen a31 h nets).length=c.outs.length+(kinds c.nodes 14).length:=by show(b5g a31 c.nodes h c.outs (kinds c.nodes 14) nets).length=_;unfold b5g;simp
theorem e88(c:Rep)(aa:List (List AV))(i j:Nat):∃rp:Rep,slP c aa i j=sl rp ((aa.take j).drop i):=by
 cases c with
 |some c=>exact⟨some (c.map (·- i)),by rw[b0v];rfl⟩
 |none=>cases aa with
  |nil=>exact⟨none,by simp[slP,sl]⟩
  |cons r rs=>exact⟨some none,by rw[b0v];rfl⟩
theorem e19{i n:Nat}(h:i≤n):inB (i:Int) n=true:=by simp[inB];omega
theorem f7f(k k':IntKind)(a b:Int):d5k (.int k a) [.int k' b]=some (.int k (if b<a then b else a)):=by rfl
theorem c93(π:Nat→Option Nat)(k:Nat)(aa:List (List AV)):a0t π (.row k aa) = .row k (aa.map λr=>r.map (ren π)):=by rfl
theorem c4z{d:Bool}(H:a03)(w:W)(j:Nat)(hj:j<64):a0b L.env d (sem L.env Mf) (.func (.func 86) [] []) [.agg w.enc,.int .i64 j] H=some (.int .u8 (atW w j:Nat),H,[]):=a04 (by kernel_rfl) (by kernel_rfl) rfl rfl (f06 w j hj) rfl
theorem f07(w:W)(j:Nat):atW w j≤3:=by unfold atW;split<;>omega
def e28(good:List W)(f:Flt)(j:Nat):Nat:=if f.model=0 then f.value else atW (a18 a31 good f) j
def fD:Flt:=⟨0,0,0,0,0⟩
def b7x(fs:List Flt)(good:List W)(l:List Nat)(w:W):W:=l.foldl (λw j=>a81 w j (e28 good (fs.getD j fD) j)) w
theorem d29(fs:List Flt)(good:List W)(l:List Nat)(j:Nat)(w:W):b7x fs good (l++[j]) w=a81 (b7x fs good l w) j (e28 good (fs.getD j fD) j):=by unfold b7x;rw[List.foldl_append];rfl
theorem d28{fs:List Flt}{good:List W}{l:List Nat}{i j:Nat}{w:W}(h:l[i]?=some j):b7x fs good (l.take (i+1)) w=a81 (b7x fs good (l.take i) w) j (e28 good (fs.getD j fD) j):=by rw[a0v h,d29]
def b2a(rl rg:Rep)(fs:List Flt)(good:List W):AV:=.func (.func 84) [] [.iptr [sl rl (fs.map Flt.enc)],.iptr [sl rg (good.map W.enc)]]
theorem d8z(nodes:List Nd)(rl rg:Rep)(fs:List Flt)(good:List W)(hf:∀f∈fs,FltOk nodes f)(aY:fs.length≤64)(hg:good.length=nodes.length)(rr:Rep)(l:List Nat)(hl:∀j∈l,j<fs.length)(aQ:l.length≤1000)(w:W) :
 sem L.env Mf 84 [.agg w.enc,sl rr (l.map nR),.iptr [sl rl (fs.map Flt.enc)],.iptr [sl rg (good.map W.enc)]] []=some (.agg (b7x fs good l w).enc,[]):=by
 simp only[W.enc]
 (refine sv Tryz.f84 ?_;simp only[Tryz.f84,gS])
 (repeat first|simp only[ww]|(apply xa;simp+decide only[go_sem];rfl;kernel_rfl))
 refine a0q (σ:=Nat) kp84_0 (λi=>[(2,.iptr [sl rl (fs.map Flt.enc)]),(3,.iptr [sl rg (good.map W.enc)]),(4,.ptr 0 0 0),(6,.ptr 1 0 0),(10,sl rr (l.map nR)),(11,.int .i64 l.length),(12,.int .i64 i)])
  (λi=>[some (.row 2 [(b7x fs good (l.take i) w).enc]),some (.row 2 [zW.enc])]) (λi=>l.length-i) (λi=>i≤l.length) 0 ?_ (f4m _) ?_
 ·have e0:b7x fs good (l.take 0) w=w:=rfl
  (simp+decide only[go_sem,a02,a00,e0,W.enc,a2d,a3l]<;>rfl)<;>rfl
 ·intro i hi;by_cases ah:i<l.length
  ·obtain⟨j,hj⟩:∃j,l[i]?=some j:=⟨_,z9e ah⟩
   have qZ:=hl j (c11 hj);obtain⟨f,pL⟩:∃f,fs[j]?=some f:=⟨_,z9e qZ⟩
   have i9:=hf f (c11 pL);have hs:=d28 (fs:=fs) (good:=good) (w:=w) hj;have hD:fs.getD j fD=f:=by rw[f8a,pL];rfl
   rw[hD]at hs;generalize b7x fs good (l.take i) w=u at hs;have c1:(i:Int)<l.length:=by omega
   have bz:=wI1 (n:=i) (by omega);have hv:=i9.value;by_cases hm:f.model=0
   ·have lZ:e28 good f j=f.value:=f6e hm;rw[lZ]at hs;have fK:=λH=>b8n (d:=false) H u j f.value (by omega) (by omega);generalize a81 u j f.value=y at fK hs;have cm:((f.model:Nat):Int)=0:=by omega
    simp only[W.enc]at fK;simp only[W.enc]
    (repeat first|simp only[ww]|(apply xa;simp+decide only[go_sem,c1,ah,hj,qZ,pL,bz,fK,cm,nR,Flt.enc];rfl;kernel_rfl))
    refine a21 (i+1) ?_ (by omega) (by omega);rw[hs]
    (simp+decide only[go_sem,a02,a00]<;>rfl)
   ·have lZ:e28 good f j=atW (a18 a31 good f) j:=f4n hm;rw[lZ]at hs;have hb:=λH=>c4e (d:=true) H nodes f i9 hm rg good hg;generalize a18 a31 good f=v at hb hs;have bg:=λH=>c4z (d:=true) H v j (by omega);have eL:=f07 v j;have fK:=λH=>b8n (d:=false) H u j (atW v j) (by omega) (by omega);generalize a81 u j (atW v j)=y at fK hs;have cm:¬((f.model:Nat):Int)=0:=by omega
    simp only[W.enc]at fK hb bg;simp only[Flt.enc]at hb;simp only[W.enc]
    (repeat first|simp only[ww]|(apply xa;simp+decide only[go_sem,c1,ah,hj,qZ,pL,bz,fK,cm,nR,Flt.enc,hb,bg];rfl;kernel_rfl))
    refine a21 (i+1) ?_ (by omega) (by omega);rw[hs]
    (simp+decide only[go_sem,a02,a00]<;>rfl)
  ·obtain rfl:i=l.length:=by omega
   have c1:¬(l.length:Int)<l.length:=by omega
   rw[f6i]
   (repeat first|simp only[ww]|(apply xa;simp+decide only[go_sem,c1];rfl;kernel_rfl))
   (apply fqb;simp+decide only[go_sem]<;>rfl)
theorem b9m{d:Bool}(H:a03)(nodes:List Nd)(rl rg:Rep)(fs:List Flt)(good:List W)(hf:∀f∈fs,FltOk nodes f)(aY:fs.length≤64)(hg:good.length=nodes.length)(rr:Rep)(l:List Nat)(hl:∀j∈l,j<fs.length)(aQ:l.length≤1000)(w:W) :
 a0b L.env d (sem L.env Mf) (b2a rl rg fs good) [.agg w.enc,sl rr (l.map nR)] H=some (.agg (b7x fs good l w).enc,H,[]):=
 a04 (by kernel_rfl) (by kernel_rfl) rfl (by simp only[e14,f4g,f6a,a07,a11,d22,a1u,W.enc,go_sem]) (d8z nodes rl rg fs good hf aY hg rr l hl aQ w) rfl
def b4c(n:Nat):AV:=.int .i64 n
def b73(p:Nat×Nat):AV:=.agg [.int .i64 p.1,.int .i64 p.2]
theorem e5j(x y:Nat):((x:Int)==(y:Int))=decide (x=y):=by rw[f9r,g0i,f4p];omega
theorem keyI:KeyOk L.env 159 3 32 b4c:=by
 refine⟨by kernel_rfl,by kernel_rfl,λx=>by kernel_rfl,λx y=>?_,λx=>by simp[b4c,c4l,b7l]⟩;have h:aeq L.env 6 3 (b4c x) (b4c y)=some ((x:Int)==(y:Int)):=by kernel_rfl
 rw[h,e5j]
theorem keyP:KeyOk L.env 93 50 32 b73:=by
 refine⟨by kernel_rfl,by kernel_rfl,λx=>by kernel_rfl,λx y=>?_,λx=>by simp[b73,c4l,b7l,b4g]⟩;have h:aeq L.env 6 50 (b73 x) (b73 y)=some (((x.1:Int)==(y.1:Int))&&(((x.2:Int)==(y.2:Int))&&true)):=by kernel_rfl
 rw[h,e5j,e5j,Bool.and_true]
 congr 1
 rw[f9r,d14,f4p,f4p,f4p];exact⟨λ⟨a,b⟩=>Prod.ext a b,λh=>by rw[h];exact⟨rfl,rfl⟩⟩
theorem b1q(x:Nat):refs (b4c x)=[]:=rfl
theorem b1o(x:Nat×Nat):refs (b73 x)=[]:=rfl
theorem zSl:L.env.zero 32=some [.nilslice]:=by kernel_rfl
theorem uSl:∃d,L.env.und 32=some d∧a7y d [.nilslice]=some .nilslice:=⟨.slice 3,by kernel_rfl,rfl⟩
def d4o(rl rg:Rep)(fs:List Flt)(good:List W)(es:List (Nat×List Nat)):AV:=.func (.func 88) [] [.iptr [b2a rl rg fs good],.iptr [a1t b4c es]]
def d4n(rl rg:Rep)(fs:List Flt)(good:List W)(es:List ((Nat×Nat)×List Nat)):AV:=.func (.func 89) [] [.iptr [b2a rl rg fs good],.iptr [a1t b73 es]]
theorem d8y(nodes:List Nd)(rl rg:Rep)(fs:List Flt)(good:List W)(es:List (Nat×List Nat))(hf:∀f∈fs,FltOk nodes f)(aY:fs.length≤64)(hg:good.length=nodes.length)(n:Nat)(hl:∀j∈atE n es,j<fs.length)(aQ:(atE n es).length≤1000)(w:W) :
 sem L.env Mf 88 [.int .i64 n,.agg w.enc,.iptr [b2a rl rg fs good],.iptr [a1t b4c es]] []=some (.agg (b7x fs good (atE n es) w).enc,[]):=by
 obtain⟨d,hd,dB⟩:=uSl;obtain⟨rr,cg⟩:=keyI.ilook zSl hd dB es n;have hc:=λH=>b9m (d:=false) H nodes rl rg fs good hf aY hg rr (atE n es) hl aQ w;have cg:∀h,a2f L.env h 159 (a1t b4c es) (.int .i64 n) false=_:=cg;generalize b7x fs good (atE n es) w=y at hc;generalize atE n es=l at hc cg;unfold b2a at hc⊢;unfold a1t at cg⊢;simp only[W.enc]at hc⊢
 (refine sv Tryz.f88 ?_;simp only[Tryz.f88,gS])
 (repeat first|simp only[ww]|(apply xa;simp+decide only[go_sem,cg,hc];rfl;kernel_rfl))
 (apply fqb;simp+decide only[go_sem]<;>rfl)
theorem d8x(nodes:List Nd)(rl rg:Rep)(fs:List Flt)(good:List W)(es:List ((Nat×Nat)×List Nat))(hf:∀f∈fs,FltOk nodes f)(aY:fs.length≤64)(hg:good.length=nodes.length)(n p:Nat)(hl:∀j∈atE (n,p) es,j<fs.length)(aQ:(atE (n,p) es).length≤1000)(w:W) :
 sem L.env Mf 89 [.int .i64 n,.int .i64 p,.agg w.enc,.iptr [b2a rl rg fs good],.iptr [a1t b73 es]] []=some (.agg (b7x fs good (atE (n,p) es) w).enc,[]):=by
 obtain⟨d,hd,dB⟩:=uSl;obtain⟨rr,cg⟩:=keyP.ilook zSl hd dB es (n,p);have hc:=λH=>b9m (d:=true) H nodes rl rg fs good hf aY hg rr (atE (n,p) es) hl aQ w;have cg:∀h,a2f L.env h 93 (a1t b73 es) (.agg [.int .i64 n,.int .i64 p]) false=_:=cg;generalize b7x fs good (atE (n,p) es) w=y at hc;generalize atE (n,p) es=l at hc cg;unfold b2a at hc⊢;unfold a1t at cg⊢;simp only[W.enc]at hc⊢
 (refine sv Tryz.f89 ?_;simp only[Tryz.f89,gS])
 (repeat first|simp only[ww]|(apply xa;simp+decide only[go_sem,cg,hc];rfl;kernel_rfl))
 (apply fqb;simp+decide only[go_sem]<;>rfl)
theorem e9o(nodes:List Nd)(rl rg:Rep)(fs:List Flt)(good:List W)(es:List (Nat×List Nat))(hf:∀f∈fs,FltOk nodes f)(aY:fs.length≤64)(hg:good.length=nodes.length)(hl:∀n,∀j∈atE n es,j<fs.length)(aQ:∀n,(atE n es).length≤1000):NetF nodes.length (d4o rl rg fs good es) (λn w=>b7x fs good (atE n es) w):=⟨rfl,λd H n w _=>a04 (by kernel_rfl) (by kernel_rfl) rfl rfl (d8y nodes rl rg fs good es hf aY hg n (hl n) (aQ n) w) rfl⟩
theorem e9n(nodes:List Nd)(rl rg:Rep)(fs:List Flt)(good:List W)(es:List ((Nat×Nat)×List Nat))(hf:∀f∈fs,FltOk nodes f)(aY:fs.length≤64)(hg:good.length=nodes.length)(hl:∀n,∀j∈atE n es,j<fs.length)(aQ:∀n,(atE n es).length≤1000):PinF nodes.length (d4n rl rg fs good es) (λn p w=>b7x fs good (atE (n,p) es) w):=⟨rfl,λd H n p w _=>a04 (by kernel_rfl) (by kernel_rfl) rfl rfl (d8x nodes rl rg fs good es hf aY hg n p (hl (n,p)) (aQ (n,p)) w) rfl⟩
structure EachOk(fs:List Flt)(i:Nat)(aM:List (Nat×List Nat))(aP:List ((Nat×Nat)×List Nat)):Prop where
 net:∀n,atE n aM=(List.range i).filter λj=>(fs.getD j fD).hitsNet n
 pin:∀p:Nat×Nat,atE p aP=(List.range i).filter λj=>(fs.getD j fD).hitsPin p.1 p.2
 nl:aM.length≤2*i
 pl:aP.length≤i
theorem b56{α:Type}[DecidableEq α](es:List (α×List Nat))(x:α)(i:Nat):(a80 es x i).length≤es.length+1:=by unfold a80;split<;>simp
theorem EachOk.next{fs:List Flt}{i:Nat}{aM mU:List (Nat×List Nat)}{aP mT:List ((Nat×Nat)×List Nat)}(h:EachOk fs i aM aP){f:Flt}(hf:fs.getD i fD=f)(hN:∀n,atE n mU=if f.hitsNet n then atE n aM++[i]else atE n aM)(hP:∀p:Nat×Nat,atE p mT=if f.hitsPin p.1 p.2 then atE p aP++[i]else atE p aP)(l1:mU.length≤aM.length+2)(l2:mT.length≤aP.length+1):EachOk fs (i+1) mU mT:=by
 have h1:=h.nl;have h2:=h.pl;refine⟨λn=>?_,λp=>?_,by omega,by omega⟩
 ·rw[hN,f9k,List.filter_append,h.net n];by_cases hh:f.hitsNet n
  ·rw[f6e hh];simp only[g2g,List.filter_nil,hf,hh,f9q]
  ·rw[f4n hh];simp only[g2g,List.filter_nil,hf,hh,g0z,f9h,f4g]
 ·rw[hP,f9k,List.filter_append,h.pin p];by_cases hh:f.hitsPin p.1 p.2
  ·rw[f6e hh];simp only[g2g,List.filter_nil,hf,hh,f9q]
  ·rw[f4n hh];simp only[g2g,List.filter_nil,hf,hh,g0z,f9h,f4g]
def e20:List AV:=[.nilslice,.nilslice,.nilslice,.nilslice,.nilslice,.nilslice,.nilslice,.nilfunc,.nilfunc]
structure EachSt(E9:List AV)(FV GV:AV)(H:a03)(eb fb gb rb nc nb pc pb:Nat)(bB be:Nat→Nat)(aM:List (Nat×List Nat))(aP:List ((Nat×Nat)×List Nat)):Prop where
 e:a01 H eb=some (.row 9 [E9])
 f:a01 H fb=some (.row 1 [[FV]])
 g:a01 H gb=some (.row 1 [[GV]])
 r:a01 H rb=some (.row 9 [e20])
 n:MSl b4c H nc nb bB aM
 p:MSl b73 H pc pb be aP
 bb:nb≠pb
 ii:∀j k,j<aM.length→k<aP.length→bB j≠be k
section
variable {E9:List AV}{FV GV:AV}{H H1:a03}{eb fb gb rb nc nb pc pb:Nat}{bB be:Nat→Nat}{aM:List (Nat×List Nat)}{aP:List ((Nat×Nat)×List Nat)}
theorem EachSt.more{L:a03}(h:EachSt E9 FV GV H eb fb gb rb nc nb pc pb bB be aM aP):EachSt E9 FV GV (H++L) eb fb gb rb nc nb pc pb bB be aM aP:=⟨by rw[a1g (g1p (a0i h.e))];exact h.e,by rw[a1g (g1p (a0i h.f))];exact h.f,by rw[a1g (g1p (a0i h.g))];exact h.g,by rw[a1g (g1p (a0i h.r))];exact h.r,h.n.more,h.p.more,h.bb,h.ii⟩
theorem _root_.Go.Ax.MSl.other{α:Type}[DecidableEq α]{enc:α→AV}{H:a03}{c b:Nat}{am:Nat→Nat}{es:List (α×List Nat)}(h:MSl enc H c b am es){d:Nat}{k:Nat}{aa:List (List AV)}(hd:a01 H d=some (.row k aa))(hk:∀l:List Nat,k=1→aa≠l.map nR):d≠b∧∀j,j<es.length→d≠am j:=by
 refine⟨λe=>?_,λj hj e=>?_⟩
 ·rw[e,h.top]at hd;cases hd
 ·obtain⟨x,hx⟩:∃x,es[j]?=some x:=⟨_,z9e hj⟩
  rw[e,h.sub j x hx]at hd;cases hd;exact hk _ rfl rfl
theorem c31{v:AV}(hv:∀k n,v≠ .int k n)(l:List Nat):[[v]]≠l.map nR:=by
 cases l with
 |nil=>simp
 |cons a r=>simp only[c10,nR];intro e;injection e with e1 e2;injection e1 with e3;exact hv _ _ e3
theorem b4k(c:Rep)(aa:List (List AV)):∀k n,sl c aa≠ .int k n:=by intro k n;cases c<;>cases aa<;>simp[sl]
theorem _root_.Go.Ax.MSl.posl{α:Type}[DecidableEq α]{x:α}{es:List (α×List Nat)}{j:Nat}(h:a7f x (es.map (·.1))=some j):j<es.length:=by simpa using(c13.1 (a38 h)).1
theorem EachSt.addN(hf:∀k n,FV≠ .int k n)(hg:∀k n,GV≠ .int k n)(h:EachSt E9 FV GV H eb fb gb rb nc nb pc pb bB be aM aP)(x i n:Nat)(hn:H.length≤n)(h1:a01 H1 nb=some (MSl.obj b4c bB aM x n))(h2:a01 H1 n=some (.row 1 ((atE x aM++[i]).map nR)))
 (h3:∀d,d<H.length→d≠nb→(∀j,a7f x (aM.map (·.1))=some j→d≠bB j)→a01 H1 d=a01 H d):∃aW,EachSt E9 FV GV H1 eb fb gb rb nc nb pc pb aW be (a80 aM x i) aP:=by
 obtain⟨aW,hN,kL,_⟩:=h.n.add x i n hn h1 h2 h3;have key:∀d k aa,a01 H d=some (.row k aa)→(∀l:List Nat,k=1→aa≠l.map nR)→a01 H1 d=some (.row k aa):=by intro d k aa hd hk;obtain⟨o1,o2⟩:=h.n.other hd hk;rw[h3 d (a0i hd) o1 (λj hj=>o2 j (MSl.posl hj)),hd]
 have bV:=h.p.lt;refine⟨aW,key _ _ _ h.e (λl e=>absurd e (by omega)),key _ _ _ h.f (λl _=>c31 hf l),key _ _ _ h.g (λl _=>c31 hg l),key _ _ _ h.r (λl e=>absurd e (by omega)),hN,?_,h.bb,?_⟩
 ·refine h.p.same λd hd=>?_;refine h3 d (bV d hd) ?_ ?_
  ·rcases MSl.mem_blocks.1 hd with rfl|rfl|⟨k,hk,rfl⟩
   ·exact(h.n.other h.p.cell (λl _=>c31 (by intro k n;simp) l)).1
   ·exact f9m h.bb
   ·intro e;obtain⟨y,hy⟩:∃y,aP[k]?=some y:=⟨_,z9e hk⟩
    have:=h.p.sub k y hy;rw[e,h.n.top]at this;cases this
  ·intro j hj;have aS:=MSl.posl hj;rcases MSl.mem_blocks.1 hd with rfl|rfl|⟨k,hk,rfl⟩
   ·exact(h.n.other h.p.cell (λl _=>c31 (by intro k n;simp) l)).2 j aS
   ·intro e;obtain⟨y,hy⟩:∃y,aM[j]?=some y:=⟨_,z9e aS⟩
    have:=h.n.sub j y hy;rw[←e,h.p.top]at this;cases this
   ·exact λe=>h.ii j k aS hk e.symm
 ·intro j k hj hk e;have dw:=bV (be k) (MSl.mem_blocks.2 (.inr (.inr ⟨k,hk,rfl⟩)));rcases kL j hj with e1|⟨fw,e1⟩
  ·omega
  ·exact h.ii j k fw hk (by rw[←e1];exact e)
theorem EachSt.addP(hf:∀k n,FV≠ .int k n)(hg:∀k n,GV≠ .int k n)(h:EachSt E9 FV GV H eb fb gb rb nc nb pc pb bB be aM aP)(x:Nat×Nat)(i n:Nat)(hn:H.length≤n)(h1:a01 H1 pb=some (MSl.obj b73 be aP x n))(h2:a01 H1 n=some (.row 1 ((atE x aP++[i]).map nR)))
 (h3:∀d,d<H.length→d≠pb→(∀j,a7f x (aP.map (·.1))=some j→d≠be j)→a01 H1 d=a01 H d):∃cU,EachSt E9 FV GV H1 eb fb gb rb nc nb pc pb bB cU aM (a80 aP x i):=by
 obtain⟨cU,hP,kL,_⟩:=h.p.add x i n hn h1 h2 h3;have key:∀d k aa,a01 H d=some (.row k aa)→(∀l:List Nat,k=1→aa≠l.map nR)→a01 H1 d=some (.row k aa):=by intro d k aa hd hk;obtain⟨o1,o2⟩:=h.p.other hd hk;rw[h3 d (a0i hd) o1 (λj hj=>o2 j (MSl.posl hj)),hd]
 have bV:=h.n.lt;refine⟨cU,key _ _ _ h.e (λl e=>absurd e (by omega)),key _ _ _ h.f (λl _=>c31 hf l),key _ _ _ h.g (λl _=>c31 hg l),key _ _ _ h.r (λl e=>absurd e (by omega)),?_,hP,h.bb,?_⟩
 ·refine h.n.same λd hd=>?_;refine h3 d (bV d hd) ?_ ?_
  ·rcases MSl.mem_blocks.1 hd with rfl|rfl|⟨k,hk,rfl⟩
   ·exact(h.p.other h.n.cell (λl _=>c31 (by intro k n;simp) l)).1
   ·exact h.bb
   ·intro e;obtain⟨y,hy⟩:∃y,aM[k]?=some y:=⟨_,z9e hk⟩
    have:=h.n.sub k y hy;rw[e,h.p.top]at this;cases this
  ·intro j hj;have aS:=MSl.posl hj;rcases MSl.mem_blocks.1 hd with rfl|rfl|⟨k,hk,rfl⟩
   ·exact(h.p.other h.n.cell (λl _=>c31 (by intro k n;simp) l)).2 j aS
   ·intro e;obtain⟨y,hy⟩:∃y,aP[j]?=some y:=⟨_,z9e aS⟩
    have:=h.p.sub j y hy;rw[←e,h.n.top]at this;cases this
   ·exact λe=>h.ii k j hk aS e
 ·intro j k hj hk e;have dw:=bV (bB j) (MSl.mem_blocks.2 (.inr (.inr ⟨j,hj,rfl⟩)));rcases kL k hk with e1|⟨mr,e1⟩
  ·omega
  ·exact h.ii j k hj mr (by rw[←e1];exact e)
end
def JJ(rl rg:Rep)(fs:List Flt)(good:List W)(E9:List AV):Nat→Frm→a03→Prop:=(λN F H1=>∃(i eb fb gb rb nc nb pc pb:Nat) (bB be:Nat→Nat) (aM:List (Nat×List Nat)) (aP:List ((Nat×Nat)×List Nat)),N=fs.length-i∧i≤fs.length∧F=[(3,.ptr eb 0 0),(4,.ptr fb 0 0),(5,.ptr gb 0 0),(6,.ptr rb 0 0),(7,.ptr nc 0 0),(8,.ptr pc 0 0),(14,sl rl (fs.map Flt.enc)),(15,.int .i64 fs.length),(16,.int .i64 (i:Nat))]∧EachSt E9 (sl rl (fs.map Flt.enc)) (sl rg (good.map W.enc)) H1 eb fb gb rb nc nb pc pb bB be aM aP∧EachOk fs i aM aP)
theorem FlatO.single{k:Nat}{v:AV}(h:refs v=[]):FlatO (some (.row k [[v]])):=FlatO.row (FlatR.cons (by simp[a0l,h]) FlatR.nil)
theorem b29(rl rg:Rep)(fs:List Flt)(good:List W)(E9:List AV)(F:Frm)(H2:a03)(i eb fb gb rb nc nb pc pb:Nat)(bB be:Nat→Nat)(aM:List (Nat×List Nat))(aP:List ((Nat×Nat)×List Nat))(hi:i≤fs.length)(hkF:a2c [3,4,5,6,7,8,14,15,16] F=[(3,.ptr eb 0 0),(4,.ptr fb 0 0),(5,.ptr gb 0 0),(6,.ptr rb 0 0),(7,.ptr nc 0 0),(8,.ptr pc 0 0),(14,sl rl (fs.map Flt.enc)),(15,.int .i64 fs.length),(16,.int .i64 (i:Nat))])
 (hS:EachSt E9 (sl rl (fs.map Flt.enc)) (sl rg (good.map W.enc)) H2 eb fb gb rb nc nb pc pb bB be aM aP)(hO:EachOk fs i aM aP)(hE:a0l E9=[])(aY:fs.length≤64) :
 ∃F1 H1,gcD 0 [3,4,5,6,7,8,14,15,16] F H2=some (F1,H1)∧JJ rl rg fs good E9 (fs.length-i) F1 H1:=by
 have jF:a0l ((a2c [3,4,5,6,7,8,14,15,16] F).map (·.2))=[eb,fb,gb,rb,nc,pc]:=by rw[hkF];simp only[c10,f4h,a07,a1u,a2w,d71,a87,b4t,f4g,e14,f6a]
 have tM:FlatR [E9]:=FlatR.cons hE FlatR.nil;have tB:FlatR [e20]:=FlatR.cons rfl FlatR.nil;have he:=hS.e;have jU:=hS.f;have hg:=hS.g;have hr:=hS.r;have h1:a0x (a01 H2 eb)=[]:=by rw[he];exact a0r tM
 have h2:a0x (a01 H2 fb)=[]:=by rw[jU];simp only[go_sem]
 have h3:a0x (a01 H2 gb)=[]:=by rw[hg];simp only[go_sem]
 have h4:a0x (a01 H2 rb)=[]:=by rw[hr];exact a0r tB
 have kQ:=hS.n.cost b1q;have iH:=hS.p.cost b1o;have cG:=hO.nl;have bV:=hO.pl;refine e9a (f4m _) (eb::fb::gb::rb::(MSl.blocks nc nb bB aM.length++MSl.blocks pc pb be aP.length)) ?_ (λx hx=>by omega) ?_ ?_ (by rw[jF];simp) ?_
 ·rw[jF];intro x hx;simp only[f6m,List.not_mem_nil,or_false,f8n]at hx⊢;have m1:nc∈MSl.blocks nc nb bB aM.length:=MSl.mem_blocks.2 (.inl rfl);have m2:pc∈MSl.blocks pc pb be aP.length:=MSl.mem_blocks.2 (.inl rfl);rcases hx with rfl|rfl|rfl|rfl|rfl|rfl<;>simp[m1,m2]
 ·intro x hx y hy;simp only[f6m,f8n]at hx⊢;rcases hx with rfl|rfl|rfl|rfl|hx|hx
  ·rw[h1]at hy;simp at hy
  ·rw[h2]at hy;simp at hy
  ·rw[h3]at hy;simp at hy
  ·rw[h4]at hy;simp at hy
  ·simp[hS.n.closed b1q x hx y hy]
  ·simp[hS.p.closed b1o x hx y hy]
 ·simp only[c10,List.sum_cons,f6c,List.sum_append,h1,h2,h3,h4,f4o];omega
 ·intro R π H1 i7 iB;have hR:∀x∈[eb,fb,gb,rb,nc,pc],R x:=λx hx=>i7.refs x (by rw[jF];exact hx);obtain⟨vV,ee⟩:=i7.here eb (hR eb (by simp));obtain⟨vO,ef⟩:=i7.here fb (hR fb (by simp));obtain⟨vL,eg⟩:=i7.here gb (hR gb (by simp));obtain⟨ua,er⟩:=i7.here rb (hR rb (by simp));obtain⟨ud,ue,nF,vU,tY,vT,hN⟩:=hS.n.mv b1q i7.mv (hR nc (by simp));obtain⟨ub,iP,nD,vS,vQ,vP,hP⟩:=hS.p.mv b1o i7.mv (hR pc (by simp));refine⟨i,vV,vO,vL,ua,ud,ue,ub,iP,nF,nD,aM,aP,rfl,hi,?_,⟨?_,?_,?_,?_,hN,hP,?_,?_⟩,hO⟩
  ·rw[hkF];simp+decide only[go_sem,ee,ef,eg,er,vU,vS]
  ·rw[i7.heap _ _ ee,he];exact FlatO.row tM _
  ·rw[i7.heap _ _ ef,jU];exact FlatO.single (a2w _ _) _
  ·rw[i7.heap _ _ eg,hg];exact FlatO.single (a2w _ _) _
  ·rw[i7.heap _ _ er,hr];exact FlatO.row tB _
  ·intro e;rw[e]at tY;exact hS.bb (i7.inj _ _ _ tY vQ)
  ·intro j k hj hk e;have e1:=vT j hj;have e2:=vP k hk;rw[e]at e1;exact hS.ii j k hj hk (i7.inj _ _ _ e1 e2)
theorem e4x(c:Cir)(hc:c.wf)(ord:List Nat)(rl rg:Rep)(fs:List Flt)(good:List W)(hf:∀f∈fs,FltOk c.nodes f)(aY:fs.length≤64)(hg:good.length=c.nodes.length) :
 ∃r:AV×a03,(∃aM aP,EachOk fs fs.length aM aP∧r=(.agg (b2q c ord (d4o rl rg fs good aM) (d4n rl rg fs good aP)),[]))∧sem L.env Mf 44 [.agg (b2q c ord net0V pin0V),sl rl (fs.map Flt.enc),sl rg (good.map W.enc)] []=some r:=by
 have cG:=hc.len;obtain⟨r0,e3⟩:=a3b (kinds c.nodes 0);obtain⟨r1,e4⟩:=a3b (kinds c.nodes 14);have ns:∀net pin,b2q c ord net pin=[sl c.nc (c.nodes.map Nd.enc),sl c.mc (c.names.map a13),.nilslice,sl c.oc (c.outs.map a0a),.islice (ord.map a0a) (some c.nodes.length),sl r0 ((kinds c.nodes 0).map a0a),sl r1 ((kinds c.nodes 14).map a0a),net,pin]:=by intro net pin;unfold b2q;rw[e3,e4]
 have py:net0V.storable=true:=rfl;have jg:pin0V.storable=true:=rfl;have eA:refs net0V=[]:=rfl;have ez:refs pin0V=[]:=rfl;have dQ:net0V.cells=[net0V]:=rfl;have gr:pin0V.cells=[pin0V]:=rfl;rw[ns net0V]
 (refine svE Tryz.f44 ?_;simp only[Tryz.f44,gS])
 (repeat first|simp only[ww]|(apply xa;simp+decide only[go_sem,py,jg,dQ,gr];rfl;kernel_rfl))
 have hE:a0l ([sl c.nc (c.nodes.map Nd.enc),sl c.mc (c.names.map a13),.nilslice,sl c.oc (c.outs.map a0a),.islice (ord.map a0a) (some c.nodes.length),sl r0 ((kinds c.nodes 0).map a0a),sl r1 ((kinds c.nodes 14).map a0a),net0V,pin0V]:List AV)=[]:=by simp+decide only[go_sem,eA,ez]
 generalize hE9:([sl c.nc (c.nodes.map Nd.enc),sl c.mc (c.names.map a13),.nilslice,sl c.oc (c.outs.map a0a),.islice (ord.map a0a) (some c.nodes.length),sl r0 ((kinds c.nodes 0).map a0a),sl r1 ((kinds c.nodes 14).map a0a),net0V,pin0V]:List AV)=E9 at hE⊢;refine a4l kp44_0 (JJ rl rg fs good E9) (fs.length-0) ?_ ?_
 ·refine b29 rl rg fs good _ _ _ 0 0 1 2 3 6 4 7 5 (λ_=>0) (λ_=>0) [] [] (f4m _) (by simp+decide only[go_sem,a2c]<;>rfl) ⟨rfl,rfl,rfl,rfl,⟨rfl,rfl,λj e he=>by simp at he,λj k hj=>by simp at hj⟩,⟨rfl,rfl,λj e he=>by simp at he,λj k hj=>by simp at hj⟩,by omega,λj k hj=>by simp at hj⟩ ⟨λn=>rfl,λp=>rfl,by simp,by simp⟩ hE aY
 ·rintro N F H1 ⟨i,eb,fb,gb,rb,nc,nb,pc,pb,bB,be,aM,aP,rfl,hi,rfl,hS,hO⟩
  by_cases ah:i<fs.length
  ·have c1:(i:Int)<fs.length:=by omega
   have bz:=wI1 (n:=i) (by omega);obtain⟨f,iF⟩:∃f,fs[i]?=some f:=⟨_,z9e ah⟩
   have i9:=hf f (c11 iF);have hD:fs.getD i fD=f:=by rw[f8a,iF];rfl
   by_cases hp:f.pin<0
   ·have cp:¬0≤f.pin:=by omega
    (repeat first|simp only[ww]|(apply xa;simp+decide only[go_sem,c1,ah,iF,cp,Flt.enc,a1v,a2p,a4h,a6d,a3t];rfl;kernel_rfl))
    have eY:=hS.more (L:=[some (AObj.row 5 [f.enc])]);have bN:a01 (H1++[some (AObj.row 5 [f.enc])]) H1.length=some (AObj.row 5 [f.enc]):=a1v;simp only[Flt.enc]at eY bN;generalize H1++[some (AObj.row 5 [_])]=Hs at eY bN⊢;generalize H1.length=tb at bN⊢;refine c6v (λF1 H2=>∃ql v35 v36 qk qj qi qh v41 qg qf v44 qe aW,F1=(45,qe)::(44,v44)::(43,qf)::(42,qg)::(41,v41)::(40,qh)::(39,qi)::(38,qj)::(37,qk)::(36,v36)::(35,v35)::(34,ql)::([(24,.bool false),(23,.int .i64 f.pin),(22,.ptr tb 0 2),(21,.ptr tb 0 1),(9,.int .i64 i),(10,.ptr tb 0 0),(20,.agg [.int .u8 f.model,.int .i64 f.node,.int .i64 f.pin,.int .u8 f.value,.int .i64 f.other]),(19,.iptr [.int .u8 f.model,.int .i64 f.node,.int .i64 f.pin,.int .u8 f.value,.int .i64 f.other]),(18,.int .i64 i),(17,.bool true),(3,.ptr eb 0 0),(4,.ptr fb 0 0),(5,.ptr gb 0 0),(6,.ptr rb 0 0),(7,.ptr nc 0 0),(8,.ptr pc 0 0),(14,sl rl (fs.map Flt.enc)),(15,.int .i64 fs.length),(16,.int .i64 (i:Nat))]:Frm)∧EachSt E9 (sl rl (fs.map Flt.enc)) (sl rg (good.map W.enc)) H2 eb fb gb rb nc nb pc pb aW be (a80 aM f.node i) aP∧a01 H2 tb=some (.row 5 [f.enc])) ?_ ?_
    ·have cZ:=eY.n.cell;have dg:=eY.n.top;have iB:=a0i cZ;have bR:=a0i dg;have eH:=a0i bN;have nk:=eY.n.bc;obtain⟨lS,lR⟩:=eY.n.other bN (λl e=>absurd e (by omega));have qq:tb≠nc:=by intro e;rw[e,cZ]at bN;cases bN
     obtain⟨d,hd,dB⟩:=uSl;have cg:=keyI.look zSl hd dB dg f.node;have fG:=λ(H':a03) (hb:a01 H' nb=_) v=>keyI.update (h:=a01 H') (hb.trans dg) f.node v;cases aX:a7f f.node (aM.map (·.1))with
     |none=>
      rw[aX]at cg fG;have cg:a2f L.env (a01 Hs) 159 (.map nb) (.int .i64 f.node) false=some .nilslice:=cg;have fG:∀(L1:a03) v,a16 L.env (a01 (Hs++L1)) 159 (.map nb) (.int .i64 f.node) v=_:=λL1 v=>fG _ (a1g (g1p bR)) v;refine a76 (by simp+decide only[go_sem,c1,Flt.enc,cZ,bN,fG,a1v,a2p,a1g,a3r,a4h,a6d,a9l,f6j,a3t,a5h,f4i,f6a,e14,iB,bR,eH,cg];rfl) ?_ ?_
      ·(repeat' (first|exact a8w|exact a8o|refine a77 ?_ ?_|refine a8n (by simp only[e12,f4o];decide+kernel) ?_|refine a8p (a7d (by simp<;>omega) (by simp<;>omega) (by simp<;>omega)) ?_))
      ·have bg:atE f.node aM=[]:=by unfold atE;rw[aX]
       have dD:MSl.obj b4c bB aM f.node (Hs.length+1) = .map ((aM.map (·.1)).map b4c++[b4c f.node]) ((aM.mapIdx λj e=>.slice (bB j) 0 e.2.length none)++[.slice (Hs.length+1) 0 1 none]) (List.range aM.length++[aM.length]) (aM.length+1):=by unfold MSl.obj;rw[aX,bg];rfl
       obtain⟨aW,dH⟩:=EachSt.addN (H1:=Hs.set nb (some (MSl.obj b4c bB aM f.node (Hs.length+1)))++[some (.row 1 [[.int .i64 i]]),some (.row 1 [[.int .i64 i]])]) (b4k _ _) (b4k _ _) eY f.node i (Hs.length+1) (by omega) (by rw[a1a bR,f6e rfl]) (by rw[a5k,bg];rfl) (λd hd hn _=>by rw[a1a hd,f4n (f9m hn)]);rw[dD]at dH;exact⟨_,_,_,_,_,_,_,_,_,_,_,_,aW,rfl,dH,by rw[a1a eH,f4n (f9m lS),bN];rfl⟩
     |some j=>
      rw[aX]at cg fG;have aS:=MSl.posl aX;obtain⟨x,hx⟩:∃x,aM[j]?=some x:=⟨_,z9e aS⟩
      have bg:atE f.node aM=x.2:=by unfold atE;rw[aX];simp[hx]
      have aV:=eY.n.sub j x hx;obtain⟨gr,fw⟩:=eY.n.sub_c aS;have lF:=lR j aS;have mw:=a0i aV;have ai:x.2.length+1≤1000000000:=by have:=hO.net f.node;rw[bg]at this;have h2:=f9x (λj=>(fs.getD j fD).hitsNet f.node) (List.range i);rw[←this,f8g]at h2;omega
      rw[bg]at cg;have cg:a2f L.env (a01 Hs) 159 (.map nb) (.int .i64 f.node) false=some (.slice (bB j) 0 x.2.length none):=cg;have fG:∀(L1:a03) v,a16 L.env (a01 (Hs.set (bB j) none++L1)) 159 (.map nb) (.int .i64 f.node) v=_:=λL1 v=>fG _ (by rw[a1a bR,f4n fw]) v;refine a76 (by simp+decide only[go_sem,c1,Flt.enc,cZ,bN,fG,a1v,a2p,a1g,a3r,a4h,a6d,a9l,f6j,a3t,a5h,f4i,f6a,e14,iB,bR,eH,cg,aV,ai,mw];rfl) ?_ ?_
      ·(repeat' (first|exact a8w|exact a8o|refine a77 ?_ ?_|refine a8n (by simp only[e12,f4o];decide+kernel) ?_|refine a8p (a7d (by simp<;>omega) (by simp<;>omega) (by simp<;>omega)) ?_))
      ·have dD:MSl.obj b4c bB aM f.node (Hs.length+1) = .map ((aM.map (·.1)).map b4c) ((aM.mapIdx λj e=>AV.slice (bB j) 0 e.2.length none).set j (.slice (Hs.length+1) 0 (x.2.length+1) none)) (List.range aM.length) aM.length:=by unfold MSl.obj;rw[aX,bg]
       obtain⟨aW,dH⟩:=EachSt.addN (H1:=(Hs.set (bB j) none).set nb (some (MSl.obj b4c bB aM f.node (Hs.length+1)))++[some (.row 1 [[.int .i64 i]]),some (.row 1 (x.2.map nR++[[.int .i64 i]]))]) (b4k _ _) (b4k _ _) eY f.node i (Hs.length+1) (by omega) (by rw[a2l bR,f6e rfl]) (by rw[a8c,bg,f6c];rfl) (λd hd hn hq=>by rw[a2l hd,f4n (f9m hn),f4n (f9m (hq j aX))]);rw[dD]at dH;exact⟨_,_,_,_,_,_,_,_,_,_,_,_,aW,rfl,dH,by rw[a2l eH,f4n (f9m lS),f4n (f9m lF),bN];rfl⟩
    ·rintro F1 H2 ⟨ql,v35,v36,qk,qj,qi,qh,v41,qg,qf,v44,qe,aW,rfl,dH,e6⟩
     by_cases hm:f.model=2
     ·have cm:((f.model:Nat):Int)=2:=by omega
      simp only[Flt.enc]at e6;have eH:=a0i e6;have aF:=(i9.bridge (by omega)).2.1;have dO:atE f.other (a80 aM f.node i)=_:=(b3t aM f.node f.other i).trans ((f4n (f9m aF)).trans (hO.net f.other));clear bN eY;have bN:=e6
      (repeat first|simp only[ww]|(apply xa;simp+decide only[go_sem,cm,bN,eH];rfl;kernel_rfl))
      refine c6v (λF1 H2=>∃sh sg sf se v53 sb sa r9 v57 r8 aW,F1=(58,r8)::(57,v57)::(56,r9)::(55,sa)::(54,sb)::(53,v53)::(52,se)::(51,sf)::(50,sg)::(49,sh)::([(48,.bool true),(47,.int .u8 2),(46,.ptr tb 0 0),(45,qe),(44,v44),(43,qf),(42,qg),(41,v41),(40,qh),(39,qi),(38,qj),(37,qk),(36,v36),(35,v35),(34,ql),(24,.bool false),(23,.int .i64 f.pin),(22,.ptr tb 0 2),(21,.ptr tb 0 1),(9,.int .i64 i),(10,.ptr tb 0 0),(20,.agg [.int .u8 2,.int .i64 f.node,.int .i64 f.pin,.int .u8 f.value,.int .i64 f.other]),(19,.iptr [.int .u8 2,.int .i64 f.node,.int .i64 f.pin,.int .u8 f.value,.int .i64 f.other]),(18,.int .i64 i),(17,.bool true),(3,.ptr eb 0 0),(4,.ptr fb 0 0),(5,.ptr gb 0 0),(6,.ptr rb 0 0),(7,.ptr nc 0 0),(8,.ptr pc 0 0),(14,sl rl (fs.map Flt.enc)),(15,.int .i64 fs.length),(16,.int .i64 (i:Nat))]:Frm)∧EachSt E9 (sl rl (fs.map Flt.enc)) (sl rg (good.map W.enc)) H2 eb fb gb rb nc nb pc pb aW be (a80 (a80 aM f.node i) f.other i) aP∧a01 H2 tb=some (.row 5 [f.enc])) ?_ ?_
      ·have cZ:=dH.n.cell;have dg:=dH.n.top;have iB:=a0i cZ;have bR:=a0i dg;have eH:=a0i bN;have nk:=dH.n.bc;obtain⟨lS,lR⟩:=dH.n.other bN (λl e=>absurd e (by omega));have qq:tb≠nc:=by intro e;rw[e,cZ]at bN;cases bN
       obtain⟨d,hd,dB⟩:=uSl;have cg:=keyI.look zSl hd dB dg f.other;have fG:=λ(H':a03) (hb:a01 H' nb=_) v=>keyI.update (h:=a01 H') (hb.trans dg) f.other v;cases aX:a7f f.other ((a80 aM f.node i).map (·.1))with
       |none=>
        rw[aX]at cg fG;have cg:a2f L.env (a01 H2) 159 (.map nb) (.int .i64 f.other) false=some .nilslice:=cg;have fG:∀(L1:a03) v,a16 L.env (a01 (H2++L1)) 159 (.map nb) (.int .i64 f.other) v=_:=λL1 v=>fG _ (a1g (g1p bR)) v;refine a76 (by simp+decide only[go_sem,c1,Flt.enc,cZ,bN,fG,a1v,a2p,a1g,a3r,a4h,a6d,a9l,f6j,a3t,a5h,f4i,f6a,e14,iB,bR,eH,cg];rfl) ?_ ?_
        ·(repeat' (first|exact a8w|exact a8o|refine a77 ?_ ?_|refine a8n (by simp only[e12,f4o];decide+kernel) ?_|refine a8p (a7d (by simp<;>omega) (by simp<;>omega) (by simp<;>omega)) ?_))
        ·have bg:atE f.other (a80 aM f.node i)=[]:=by unfold atE;rw[aX]
         have dD:MSl.obj b4c aW (a80 aM f.node i) f.other (H2.length+1) = .map (((a80 aM f.node i).map (·.1)).map b4c++[b4c f.other]) (((a80 aM f.node i).mapIdx λj e=>.slice (aW j) 0 e.2.length none)++[.slice (H2.length+1) 0 1 none]) (List.range (a80 aM f.node i).length++[(a80 aM f.node i).length]) ((a80 aM f.node i).length+1):=by unfold MSl.obj;rw[aX,bg];rfl
         obtain⟨aW,dH⟩:=EachSt.addN (H1:=H2.set nb (some (MSl.obj b4c aW (a80 aM f.node i) f.other (H2.length+1)))++[some (.row 1 [[.int .i64 i]]),some (.row 1 [[.int .i64 i]])]) (b4k _ _) (b4k _ _) dH f.other i (H2.length+1) (by omega) (by rw[a1a bR,f6e rfl]) (by rw[a5k,bg];rfl) (λd hd hn _=>by rw[a1a hd,f4n (f9m hn)]);rw[dD]at dH;exact⟨_,_,_,_,_,_,_,_,_,_,aW,rfl,dH,by rw[a1a eH,f4n (f9m lS),bN];rfl⟩
       |some j=>
        rw[aX]at cg fG;have aS:=MSl.posl aX;obtain⟨x,hx⟩:∃x,(a80 aM f.node i)[j]?=some x:=⟨_,z9e aS⟩
        have bg:atE f.other (a80 aM f.node i)=x.2:=by unfold atE;rw[aX];simp[hx]
        have aV:=dH.n.sub j x hx;obtain⟨gr,fw⟩:=dH.n.sub_c aS;have lF:=lR j aS;have mw:=a0i aV;have ai:x.2.length+1≤1000000000:=by have:=dO;rw[bg]at this;have h2:=f9x (λj=>(fs.getD j fD).hitsNet f.other) (List.range i);rw[←this,f8g]at h2;omega
        rw[bg]at cg;have cg:a2f L.env (a01 H2) 159 (.map nb) (.int .i64 f.other) false=some (.slice (aW j) 0 x.2.length none):=cg;have fG:∀(L1:a03) v,a16 L.env (a01 (H2.set (aW j) none++L1)) 159 (.map nb) (.int .i64 f.other) v=_:=λL1 v=>fG _ (by rw[a1a bR,f4n fw]) v;refine a76 (by simp+decide only[go_sem,c1,Flt.enc,cZ,bN,fG,a1v,a2p,a1g,a3r,a4h,a6d,a9l,f6j,a3t,a5h,f4i,f6a,e14,iB,bR,eH,cg,aV,ai,mw];rfl) ?_ ?_
        ·(repeat' (first|exact a8w|exact a8o|refine a77 ?_ ?_|refine a8n (by simp only[e12,f4o];decide+kernel) ?_|refine a8p (a7d (by simp<;>omega) (by simp<;>omega) (by simp<;>omega)) ?_))
        ·have dD:MSl.obj b4c aW (a80 aM f.node i) f.other (H2.length+1) = .map (((a80 aM f.node i).map (·.1)).map b4c) (((a80 aM f.node i).mapIdx λj e=>AV.slice (aW j) 0 e.2.length none).set j (.slice (H2.length+1) 0 (x.2.length+1) none)) (List.range (a80 aM f.node i).length) (a80 aM f.node i).length:=by unfold MSl.obj;rw[aX,bg]
         obtain⟨aW,dH⟩:=EachSt.addN (H1:=(H2.set (aW j) none).set nb (some (MSl.obj b4c aW (a80 aM f.node i) f.other (H2.length+1)))++[some (.row 1 [[.int .i64 i]]),some (.row 1 (x.2.map nR++[[.int .i64 i]]))]) (b4k _ _) (b4k _ _) dH f.other i (H2.length+1) (by omega) (by rw[a2l bR,f6e rfl]) (by rw[a8c,bg,f6c];rfl) (λd hd hn hq=>by rw[a2l hd,f4n (f9m hn),f4n (f9m (hq j aX))]);rw[dD]at dH;exact⟨_,_,_,_,_,_,_,_,_,_,aW,rfl,dH,by rw[a2l eH,f4n (f9m lS),f4n (f9m lF),bN];rfl⟩
      ·rintro F1 H2 ⟨sh,sg,sf,se,v53,sb,sa,r9,v57,r8,aW,rfl,dH,e6⟩
       simp only[Flt.enc]at e6;have eH:=a0i e6
       (repeat first|simp only[ww]|(apply xa;simp+decide only[go_sem,e6,eH,bz];rfl;kernel_rfl))
       refine a1j (fs.length-(i+1)) (by omega) ?_;refine b29 rl rg fs good E9 _ _ (i+1) eb fb gb rb nc nb pc pb aW be _ _ ah (by simp+decide only[go_sem,a2c]<;>rfl) dH ?_ hE aY;refine hO.next hD (λn=>?_) (λp=>?_) (by have:=b56 aM f.node i;have:=b56 (a80 aM f.node i) f.other i;omega) (by omega)
       ·rw[b3t,b3t];by_cases h1:n=f.node
        ·have h2:n≠f.other:=by omega
         simp[Flt.hitsNet,hp,hm,h1,aF]
        ·by_cases h2:n=f.other
         ·simp[Flt.hitsNet,hp,hm,h2,f9m aF]
         ·simp[Flt.hitsNet,hp,hm,h1,h2]
       ·simp[Flt.hitsPin,cp]
     ·have cm:¬((f.model:Nat):Int)=2:=by omega
      simp only[Flt.enc]at e6;have eH:=a0i e6
      (repeat first|simp only[ww]|(apply xa;simp+decide only[go_sem,cm,e6,eH,bz];rfl;kernel_rfl))
      refine a1j (fs.length-(i+1)) (by omega) ?_;refine b29 rl rg fs good E9 _ _ (i+1) eb fb gb rb nc nb pc pb aW be _ _ ah (by simp+decide only[go_sem,a2c]<;>rfl) dH ?_ hE aY;refine hO.next hD (λn=>?_) (λp=>?_) (by have:=b56 aM f.node i;omega) (by omega)
      ·rw[b3t];simp[Flt.hitsNet,hp,hm]
      ·simp[Flt.hitsPin,cp]
   ·have cp:0≤f.pin:=by omega
    (repeat first|simp only[ww]|(apply xa;simp+decide only[go_sem,c1,ah,iF,cp,Flt.enc,a1v,a2p,a4h,a6d,a3t];rfl;kernel_rfl))
    obtain⟨p,sQ⟩:∃p:Nat,f.pin=(p:Nat):=⟨f.pin.toNat,by omega⟩
    have eY:=hS.more (L:=[some (AObj.row 5 [f.enc])]);have bN:a01 (H1++[some (AObj.row 5 [f.enc])]) H1.length=some (AObj.row 5 [f.enc]):=a1v;simp only[Flt.enc]at eY bN;generalize H1++[some (AObj.row 5 [_])]=Hs at eY bN⊢;generalize H1.length=tb at bN⊢;rw[sQ]at bN⊢;refine e22 (λF1 H2=>∃v25 v26 v27 v28 sk sj si v32 v33 cU,F1=(33,v33)::(32,v32)::(28,v28)::(31,si)::(30,sj)::(29,sk)::(27,v27)::(26,v26)::(25,v25)::([(24,.bool true),(23,.int .i64 (p:Nat)),(22,.ptr tb 0 2),(21,.ptr tb 0 1),(9,.int .i64 i),(10,.ptr tb 0 0),(20,.agg [.int .u8 f.model,.int .i64 f.node,.int .i64 (p:Nat),.int .u8 f.value,.int .i64 f.other]),(19,.iptr [.int .u8 f.model,.int .i64 f.node,.int .i64 (p:Nat),.int .u8 f.value,.int .i64 f.other]),(18,.int .i64 i),(17,.bool true),(3,.ptr eb 0 0),(4,.ptr fb 0 0),(5,.ptr gb 0 0),(6,.ptr rb 0 0),(7,.ptr nc 0 0),(8,.ptr pc 0 0),(14,sl rl (fs.map Flt.enc)),(15,.int .i64 fs.length),(16,.int .i64 (i:Nat))]:Frm)∧EachSt E9 (sl rl (fs.map Flt.enc)) (sl rg (good.map W.enc)) H2 eb fb gb rb nc nb pc pb bB cU aM (a80 aP (f.node,p) i)) ?_ ?_
    ·have cZ:=eY.p.cell;have dg:=eY.p.top;have iB:=a0i cZ;have bR:=a0i dg;have eH:=a0i bN;have nk:=eY.p.bc;obtain⟨lS,lR⟩:=eY.p.other bN (λl e=>absurd e (by omega));have qq:tb≠pc:=by intro e;rw[e,cZ]at bN;cases bN
     obtain⟨d,hd,dB⟩:=uSl;have gz:=λ(H':a03) (hb:a01 H' pb=_) r=>keyP.entry (h:=a01 H') (r:=r) (hb.trans dg) (f.node,p) zSl hd dB;have rM:∀(o:Option AObj) (L:a03),a01 (Hs.set pb o++L) Hs.length=a01 L 0:=λo L=>by have:=a5k (H:=Hs) (a:=pb) (o:=o) (L:=L) 0;rwa [g1w]at this
     cases aX:a7f (f.node,p) (aP.map (·.1))with
     |none=>
      simp only[aX]at gz;have gz:∀L1:a03,a45 L.env (a01 (Hs++L1)) 93 (.map pb) (.agg [.int .i64 f.node,.int .i64 p])=_:=λL1=>gz _ (a1g (g1p bR)) _ rfl;have jY:=λ(L1:a03) v=>a68 (k:=.i64) (h:=a01 (Hs.set pb (some (.map ((aP.map (·.1)).map b73++[b73 (f.node,p)]) ((aP.mapIdx λj (e:(Nat×Nat)×List Nat)=>AV.slice (be j) 0 e.2.length none)++[AV.nilslice]) (List.range aP.length++[aP.length]) (aP.length+1)))++L1)) (b:=pb) (n:=aP.length+1) (cl:=aP.length+1) (ks:=(aP.map (·.1)).map b73++[b73 (f.node,p)]) (vs:=(aP.mapIdx λj (e:(Nat×Nat)×List Nat)=>AV.slice (be j) 0 e.2.length none)++[AV.nilslice]) (by rw[a1a bR,f6e rfl,f9k]) (j:=aP.length) (by omega) v;simp only[f9k]at jY;have az:∀v:AV,((aP.mapIdx λj (e:(Nat×Nat)×List Nat)=>AV.slice (be j) 0 e.2.length none)++[AV.nilslice]).set aP.length v=(aP.mapIdx λj (e:(Nat×Nat)×List Nat)=>AV.slice (be j) 0 e.2.length none)++[v]:=by intro v;have:=List.set_append_right (s:=aP.mapIdx λj (e:(Nat×Nat)×List Nat)=>AV.slice (be j) 0 e.2.length none) (t:=[AV.nilslice]) aP.length v (by simp);rw[this];simp
      refine b8u (by simp+decide only[go_sem,c1,Flt.enc,cZ,bN,a1v,a2p,a1g,a3r,a4h,a6d,a9l,f6j,a3t,a5h,f4i,f6a,e14,iB,bR,eH,gz,jY,az,rM,List.set_set];rfl) ?_
      ·have bg:atE (f.node,p) aP=[]:=by unfold atE;rw[aX]
       have dD:MSl.obj b73 be aP (f.node,p) (Hs.length+1) = .map ((aP.map (·.1)).map b73++[b73 (f.node,p)]) ((aP.mapIdx λj (e:(Nat×Nat)×List Nat)=>.slice (be j) 0 e.2.length none)++[.slice (Hs.length+1) 0 1 none]) (List.range aP.length++[aP.length]) (aP.length+1):=by unfold MSl.obj;rw[aX,bg];rfl
       obtain⟨cU,dH⟩:=EachSt.addP (H1:=Hs.set pb (some (MSl.obj b73 be aP (f.node,p) (Hs.length+1)))++[some (.row 1 [[.int .i64 i]]),some (.row 1 [[.int .i64 i]])]) (b4k _ _) (b4k _ _) eY (f.node,p) i (Hs.length+1) (by omega) (by rw[a1a bR,f6e rfl]) (by rw[a5k,bg];rfl) (λd hd hn _=>by rw[a1a hd,f4n (f9m hn)]);rw[dD]at dH;exact⟨_,_,_,_,_,_,_,_,_,cU,rfl,dH⟩
     |some j=>
      have aS:=MSl.posl aX;obtain⟨x,hx⟩:∃x,aP[j]?=some x:=⟨_,z9e aS⟩
      have bg:atE (f.node,p) aP=x.2:=by unfold atE;rw[aX];simp[hx]
      have aV:=eY.p.sub j x hx;obtain⟨gr,fw⟩:=eY.p.sub_c aS;have lF:=lR j aS;have mw:=a0i aV;have ai:x.2.length+1≤1000000000:=by have:=hO.pin (f.node,p);rw[bg]at this;have h2:=f9x (λj=>(fs.getD j fD).hitsPin ((f.node,p):Nat×Nat).1 ((f.node,p):Nat×Nat).2) (List.range i);rw[←this,f8g]at h2;omega
      have pK:(aP.mapIdx λj (e:(Nat×Nat)×List Nat)=>AV.slice (be j) 0 e.2.length none)[j]?=some (.slice (be j) 0 x.2.length none):=by rw[f5y,hx];rfl
      have ng:(List.range aP.length)[j]?=some j:=g07 aS;simp only[aX,pK,ng]at gz;have gz:∀L1:a03,a45 L.env (a01 (Hs++L1)) 93 (.map pb) (.agg [.int .i64 f.node,.int .i64 p])=_:=λL1=>gz _ (a1g (g1p bR)) _ rfl;have jf:=a8k dg;have jY:=λ(L1:a03) v=>a68 (k:=.i64) (h:=a01 (Hs.set (be j) none++L1)) (b:=pb) (by rw[a1a bR,f4n fw];exact dg) aS v;refine b8u (by simp+decide only[go_sem,c1,Flt.enc,cZ,bN,a1v,a2p,a1g,a3r,a4h,a6d,a9l,f6j,a3t,a5h,f4i,f6a,e14,iB,bR,eH,gz,jY,jf,aV,ai,mw];rfl) ?_
      ·have dD:MSl.obj b73 be aP (f.node,p) (Hs.length+1) = .map ((aP.map (·.1)).map b73) ((aP.mapIdx λj (e:(Nat×Nat)×List Nat)=>AV.slice (be j) 0 e.2.length none).set j (.slice (Hs.length+1) 0 (x.2.length+1) none)) (List.range aP.length) aP.length:=by unfold MSl.obj;rw[aX,bg]
       obtain⟨cU,dH⟩:=EachSt.addP (H1:=(Hs.set (be j) none).set pb (some (MSl.obj b73 be aP (f.node,p) (Hs.length+1)))++[some (.row 1 [[.int .i64 i]]),some (.row 1 (x.2.map nR++[[.int .i64 i]]))]) (b4k _ _) (b4k _ _) eY (f.node,p) i (Hs.length+1) (by omega) (by rw[a2l bR,f6e rfl]) (by rw[a8c,bg,f6c];rfl) (λd hd hn hq=>by rw[a2l hd,f4n (f9m hn),f4n (f9m (hq j aX))]);rw[dD]at dH;exact⟨_,_,_,_,_,_,_,_,_,cU,rfl,dH⟩
    ·rintro F1 H2 ⟨v25,v26,v27,v28,sk,sj,si,v32,v33,cU,rfl,dH⟩
     (repeat first|simp only[ww]|(apply xa;simp+decide only[go_sem,bz];rfl;kernel_rfl))
     refine a1j (fs.length-(i+1)) (by omega) ?_;refine b29 rl rg fs good E9 _ _ (i+1) eb fb gb rb nc nb pc pb bB cU _ _ ah (by simp+decide only[go_sem,a2c]<;>rfl) dH ?_ hE aY;refine hO.next hD (λn=>?_) (λq=>?_) (by omega) (by have:=b56 aP (f.node,p) i;omega)
     ·simp[Flt.hitsNet,hp]
     ·rw[b3t];have he:(q=(f.node,p))=(f.hitsPin q.1 q.2=true):=by
       simp only[Flt.hitsPin,sQ,d14,f4p,eq_iff_iff];exact⟨λh=>by rw[h];exact⟨by omega,rfl,rfl⟩,λ⟨_,h1,h2⟩=>Prod.ext h1 (by omega)⟩
      simp only[he]
  ·obtain rfl:i=fs.length:=by omega
   have c1:¬(fs.length:Int)<fs.length:=by omega
   have he:=hS.e;have hr:=hS.r;have jm:=a0i he;have dM:=a0i hr;unfold e20 at hr;have vc:eb≠rb:=by intro e;rw[e,hr]at he;have h1:=congrArg (λo:Option AObj=>match o with|some (.row _ [l])=>l|_=>[]) he;simp only at h1;rw[←hE9]at h1;simp only[List.cons.injEq]at h1;have h2:=h1.2.2.2.2.2.2.2.1;simp[net0V]at h2
   have q1:∀(o:Option AObj) (L:a03),a01 (H1.set eb o++L) eb=o:=λo L=>by rw[a1a jm,f6e rfl]
   have q2:∀(o:Option AObj) (L:a03),a01 (H1.set eb o++L) rb=some (.row 9 [[.nilslice,.nilslice,.nilslice,.nilslice,.nilslice,.nilslice,.nilslice,.nilfunc,.nilfunc]]):=λo L=>by rw[a1a dM,f4n vc,hr]
   have q3:∀(o o2:Option AObj) (L:a03),a01 ((H1.set eb o).set rb o2++L) rb=o2:=λo o2 L=>by rw[a2l dM,f6e rfl]
   rw[←hE9]at he
   (repeat first|simp only[ww]|(apply xa;simp+decide only[go_sem,q1,q2,q3,List.set_set,c1,he,hr,jm,dM,a1v,a2p,a1g,a3r,a4h,a6d,a9l,f6j,a3t,a5h,f4i,f6a,e14,py,jg,dQ,gr];rfl;kernel_rfl))
   have tq:∀d,d∈MSl.blocks nc nb bB aM.length→d≠eb∧d≠rb:=by
    intro d hd;obtain⟨o1,o2⟩:=hS.n.other he (λl e=>absurd e (by omega));obtain⟨o3,o4⟩:=hS.n.other hr (λl e=>absurd e (by omega));rcases MSl.mem_blocks.1 hd with rfl|rfl|⟨j,hj,rfl⟩
    ·exact⟨λe=>by(have:=hS.n.cell;rw[e,he]at this;cases this),λe=>by(have:=hS.n.cell;rw[e,hr]at this;cases this)⟩
    ·exact⟨f9m o1,f9m o3⟩
    ·exact⟨f9m (o2 j hj),f9m (o4 j hj)⟩
   have tp:∀d,d∈MSl.blocks pc pb be aP.length→d≠eb∧d≠rb:=by
    intro d hd;obtain⟨o1,o2⟩:=hS.p.other he (λl e=>absurd e (by omega));obtain⟨o3,o4⟩:=hS.p.other hr (λl e=>absurd e (by omega));rcases MSl.mem_blocks.1 hd with rfl|rfl|⟨j,hj,rfl⟩
    ·exact⟨λe=>by(have:=hS.p.cell;rw[e,he]at this;cases this),λe=>by(have:=hS.p.cell;rw[e,hr]at this;cases this)⟩
    ·exact⟨f9m o1,f9m o3⟩
    ·exact⟨f9m (o2 j hj),f9m (o4 j hj)⟩
   have uV:=hS.n.lt;have uU:=hS.p.lt;have jU:=hS.f;have kN:=hS.g;have cj:fb≠eb∧fb≠rb:=⟨λe=>by(rw[e,he]at jU;cases jU),λe=>by(rw[e,hr]at jU;cases jU)⟩
   have gw:gb≠eb∧gb≠rb:=⟨λe=>by(rw[e,he]at kN;cases kN),λe=>by(rw[e,hr]at kN;cases kN)⟩
   refine a5l (vs:=[_]) (r:=(_,[])) (by simp+decide only[go_sem,q3]<;>rfl) ?_ ⟨aM,aP,hO,rfl⟩;show a1f false 0 _ _=_;have pV:∀(o o2:Option AObj) (L:a03) d,d<H1.length→d≠eb→d≠rb→a01 ((H1.set eb o).set rb o2++L) d=a01 H1 d:=λo o2 L d h1 h2 h3=>by rw[a2l h1,f4n (f9m h3),f4n (f9m h2)]
   have vH:∀(o o2:Option AObj) (L:a03),a01 ((H1.set eb o).set rb o2++L) H1.length=a01 L 0:=λo o2 L=>by have:=a8c (H:=H1) (a:=eb) (b:=rb) (x:=o) (y:=o2) (L:=L) 0;rwa [g1w]at this
   have vC:∀(o o2:Option AObj) (L:a03),MSl b4c ((H1.set eb o).set rb o2++L) nc nb bB aM:=λo o2 L=>hS.n.same λd hd=>pV o o2 L d (uV d hd) (tq d hd).1 (tq d hd).2;have vw:∀(o o2:Option AObj) (L:a03),MSl b73 ((H1.set eb o).set rb o2++L) pc pb be aP:=λo o2 L=>hS.p.same λd hd=>pV o o2 L d (uU d hd) (tp d hd).1 (tp d hd).2;have eC:=λ(o o2:Option AObj) (L:a03)=>(pV o o2 L fb (a0i jU) cj.1 cj.2).trans jU;have u7:=λ(o o2:Option AObj) (L:a03)=>(pV o o2 L gb (a0i kN) gw.1 gw.2).trans kN;have k1:∀(o o2:Option AObj),a54 (a01 ((H1.set eb o).set rb o2++[some (AObj.row 1 [[AV.func (.func 84) [] [.ptr fb 0 0,.ptr gb 0 0]]])])) 0 12 (.ptr H1.length 0 0)=some (.iptr [b2a rl rg fs good]):=by intro o o2;refine b6s (n:=11) (vH o o2 _) ?_;rw[c7x,a7s,a3n,b6o,f9e (f9t _),f7z,b6s (n:=10) (eC o o2 _) (a43 0 false _ _ (a2w _ _)),a3n,b6o,f9e (f9t _),f7z,b6s (n:=10) (u7 o o2 _) (a43 0 false _ _ (a2w _ _)),a7s];rfl
   have k2:=λ(o o2:Option AObj) (L:a03)=>(vC o o2 L).frz b1q 9;have k3:=λ(o o2:Option AObj) (L:a03)=>(vw o o2 L).frz b1o 9;have kb:∀b:Nat,decide (b<0)=false:=λb=>f9e (f9t _);rw[ns];unfold d4o d4n;generalize b2a rl rg fs good=f1 at k1;generalize a1t b4c aM=m1 at k2;generalize a1t b73 aP=m2 at k3;rw[b25];simp only[a5q,e4k,c7x,a3n,a7s,b6o,kb,f7z,Nat.reduceAdd,k1,k2,k3,a0j,e1e,b9f,b48];rw[f6b];rfl
def b4p(fs:List Flt)(good:List W)(aM:List (Nat×List Nat))(aP:List ((Nat×Nat)×List Nat)):Hk W:=⟨λn w=>b7x fs good (atE n aM) w,λn p w=>b7x fs good (atE (n,p) aP) w⟩
theorem d4m(c:Cir)(hc:c.wf)(ord:List Nat)(rl rg:Rep)(fs:List Flt)(good:List W)(hf:∀f∈fs,FltOk c.nodes f)(aY:fs.length≤64)(hg:good.length=c.nodes.length) :
 ∃net pin aM aP,EachOk fs fs.length aM aP∧NetF c.nodes.length net (b4p fs good aM aP).net∧PinF c.nodes.length pin (b4p fs good aM aP).pin∧net.storable=true∧pin.storable=true∧
  ∀(d:Bool) (H:a03),a0b L.env d (sem L.env Mf) (.func (.func 44) [] []) [.agg (b2q c ord net0V pin0V),sl rl (fs.map Flt.enc),sl rg (good.map W.enc)] H=some (.agg (b2q c ord net pin),H,[]):=by
 obtain⟨r,⟨aM,aP,hO,rfl⟩,h3⟩:=e4x c hc ord rl rg fs good hf aY hg;have hN:∀n,∀j∈atE n aM,j<fs.length:=by intro n j hj;rw[hO.net n]at hj;simpa using(f9s.1 hj).1
 have hP:∀p,∀j∈atE p aP,j<fs.length:=by intro p j hj;rw[hO.pin p]at hj;simpa using(f9s.1 hj).1
 have nq:∀n,(atE n aM).length≤1000:=by intro n;rw[hO.net n];have:=f9x (λj=>(fs.getD j fD).hitsNet n) (List.range fs.length);rw[f8g]at this;omega
 have vA:∀p,(atE p aP).length≤1000:=by intro p;rw[hO.pin p];have:=f9x (λj=>(fs.getD j fD).hitsPin p.1 p.2) (List.range fs.length);rw[f8g]at this;omega
 exact⟨_,_,aM,aP,hO,e9o c.nodes rl rg fs good aM hf aY hg hN nq,e9n c.nodes rl rg fs good aP hf aY hg hP vA,rfl,rfl,λd H=>a04 (by kernel_rfl) (by kernel_rfl) rfl (by simp only[e14,f4g,a07,a11,b1n c ord net0V pin0V rfl rfl,go_sem]) h3 (by rw[a11];exact b1n _ _ _ _ rfl rfl)⟩
theorem d75(r:Rep)(l:List Nat)(hl:l.length≤1000)(hv:∀v∈l,v≤3):sem L.env Mf 42 [sl r (l.map u8R)] []=some (sl none ((l.map a1i).map W.enc),[]):=by
 (refine sv Tryz.f42 ?_;simp only[Tryz.f42,gS])
 (repeat first|simp only[ww]|(apply xa;simp+decide only[go_sem];rfl;kernel_rfl))
 refine a0q (σ:=Nat) kp42_0 (λi=>[(3,grV 0 (((l.take i).map a1i).map W.enc)),(6,sl r (l.map u8R)),(7,.int .i64 l.length),(8,.int .i64 i)])
  (λi=>grH 2 (((l.take i).map a1i).map W.enc)) (λi=>l.length-i) (λi=>i≤l.length) 0 ?_ (f4m _) ?_
 ·(simp+decide only[go_sem,a02,a00,f6b,f4h,a0g,a0h]<;>rfl)
 ·intro i hi;by_cases ah:i<l.length
  ·obtain⟨v,hx⟩:∃v,l[i]?=some v:=⟨_,z9e ah⟩
   have wg:=hv v (c11 hx);have c1:(i:Int)<l.length:=by omega
   have bz:=wI1 (n:=i) (by omega);have hc:=λH=>b6y (d:=false) H v (by omega);have hs:((l.take (i+1)).map a1i).map W.enc=((l.take i).map a1i).map W.enc++[(a1i v).enc]:=by rw[a0v hx];simp
   have bJ:(((l.take i).map a1i).map W.enc).length=i:=by simp;omega
   generalize a1i v=y at hc hs;have ru:=b19 ((l.take i).map a1i);generalize((l.take i).map a1i).map W.enc=T at hs bJ ru;have h1:=a0f ru;have h2:=λπ=>a0c π ru;simp only[W.enc]at hc;cases T with
   |nil=>
    (repeat first|simp only[ww]|(apply xa;simp+decide only[go_sem,c1,ah,hx,bz,hc,a0g,a0h,u8R];rfl;kernel_rfl))
    refine a21 (i+1) ?_ (by omega) (by omega);rw[hs]
    (simp+decide only[go_sem,a02,a00,e14,a05,a06,f4o,a4y,a7h,W.enc]<;>rfl)
   |cons a r=>
    simp only[e12]at bJ;have aE:r.length+1+1≤1000000000:=by omega
    simp only[f9j]at h1;simp only[c10,List.cons.injEq]at h2
    (repeat first|simp only[ww]|(apply xa;simp+decide only[go_sem,c1,ah,hx,bz,hc,a05,a06,aE,e12,u8R];rfl;kernel_rfl))
    refine a21 (i+1) ?_ (by omega) (by omega);rw[hs]
    (simp+decide only[go_sem,a02,a00,f6a,a05,a06,e12,a4y,a7h,W.enc,h1,h2]<;>rfl)
  ·obtain rfl:i=l.length:=by omega
   have c1:¬(l.length:Int)<l.length:=by omega
   rw[f6i];have aY:=b19 (l.map a1i);generalize hT:(l.map a1i).map W.enc=T at aY;cases T with
   |nil=>
    (repeat first|simp only[ww]|(apply xa;simp+decide only[go_sem,c1,a0g,a0h];rfl;kernel_rfl))
    (apply fqb;simp+decide only[go_sem]<;>rfl)
   |cons a r=>
    (repeat first|simp only[ww]|(apply xa;simp+decide only[go_sem,c1,a05,a06];rfl;kernel_rfl))
    (apply fqb;simp+decide only[go_sem,a12 _ _ aY,a6c]<;>rfl)
theorem b8p{d:Bool}(H:a03)(r:Rep)(l:List Nat)(hl:l.length≤1000)(hv:∀v∈l,v≤3):a0b L.env d (sem L.env Mf) (.func (.func 42) [] []) [sl r (l.map u8R)] H=some (sl none ((l.map a1i).map W.enc),H,[]):=a04 (by kernel_rfl) (by kernel_rfl) rfl (by simp only[e14,f4g,a07,go_sem]) (d75 r l hl hv) (a2w _ _)
theorem e27(good:List W)(f:Flt)(j:Nat):e28 good f j=f3i good f j:=rfl
theorem e4y{fs:List Flt}{good:List W}{aM:List (Nat×List Nat)}{aP:List ((Nat×Nat)×List Nat)}(h:EachOk fs fs.length aM aP)(aY:fs.length≤64){j:Nat}{f:Flt}(hj:fs[j]?=some f) :
 HkHom (a30 j) (b4p fs good aM aP) (hkF f (a30 j (a18 a31 good f))):=by
 have aS:=(c13.1 hj).1;have hD:fs.getD j fD=f:=by rw[f8a,hj];rfl
 have hv:∀l w,(∀k∈l,k<64)→a30 j (b7x fs good l w)=if j∈l then a30 j (a18 a31 good f)else a30 j w:=by intro l w hl;have:=c3d (j:=j) (by omega) (λk=>e28 good (fs.getD k fD) k) l w hl;rw[hD,e27,d19 (by omega)]at this;exact this
 refine⟨λn w=>?_,λn p w=>?_⟩
 ·show a30 j (b7x fs good (atE n aM) w)=if f.hitsNet n then a30 j (a18 a31 good f)else a30 j w
  rw[hv _ _ (λk hk=>by rw[h.net n]at hk;have:=(f9s.1 hk).1;simp at this;omega),h.net n];have e:(j∈(List.range fs.length).filter λk=>(fs.getD k fD).hitsNet n)=(f.hitsNet n=true):=by rw[f9s,hD];simp[aS]
  simp only[e]
 ·show a30 j (b7x fs good (atE (n,p) aP) w)=if f.hitsPin n p then a30 j (a18 a31 good f)else a30 j w
  rw[hv _ _ (λk hk=>by rw[h.pin (n,p)]at hk;have:=(f9s.1 hk).1;simp at this;omega),h.pin (n,p)];have e:(j∈(List.range fs.length).filter λk=>(fs.getD k fD).hitsPin (n,p).1 (n,p).2)=(f.hitsPin n p=true):=by rw[f9s,hD];simp[aS]
  simp only[e]
theorem b93{j:Nat}(hj:j<64)(l:List Nat):(l.map a1i).map (a30 j)=l.map a0k:=by rw[g1o];exact f8e λv _=>a8a hj v
theorem d49(l:List Pat):FlatR (l.map Pat.enc):=FlatR.map λp=>by simp only[Pat.enc,a07,a1u,a2w,f4g]
def a7k(S:Sim)(l:List Flt)(p:Pat)(i:Nat):List (List AV):=(List.range l.length).map λj=>[.bool (if j<i then S.det (l.getD j fD) p else false)]
theorem b2d(S:Sim)(l:List Flt)(p:Pat)(i:Nat):(a7k S l p i).length=l.length:=by simp[a7k]
theorem d06(S:Sim)(l:List Flt)(p:Pat):a7k S l p 0=List.replicate l.length [.bool false]:=by unfold a7k;refine(f8e (g:=λ_=>[AV.bool false]) (λj _=>by rw[f4n (f9t _)])).trans ?_;rw[List.map_const',f8g]
theorem b76{S:Sim}{l:List Flt}{p:Pat}{i j:Nat}(h:j<l.length):(a7k S l p i)[j]?=some [.bool (if j<i then S.det (l.getD j fD) p else false)]:=by unfold a7k;rw[f4q,g07 h];rfl
theorem d07{S:Sim}{l:List Flt}{p:Pat}{i:Nat}{f:Flt}(h:l[i]?=some f):(a7k S l p i).set i [.bool (S.det f p)]=a7k S l p (i+1):=by
 have hi:=(c13.1 h).1;have hD:l.getD i fD=f:=by rw[f8a,h];rfl
 apply f8l;intro j;rw[f6k,b2d];by_cases hj:j<l.length
 ·rw[b76 hj,b76 hj];by_cases bX:i=j
  ·subst bX;rw[f6e rfl,f6e hi,f6e (by omega),hD]
  ·rw[f4n bX];by_cases h2:j<i
   ·rw[f6e h2,f6e (by omega)]
   ·rw[f4n h2,f4n (by omega)]
 ·have e:∀i,(a7k S l p i)[j]?=none:=λi=>f6h (by rw[b2d];omega);rw[e,e,f4n (by omega)]
theorem b77{S:Sim}{l:List Flt}{p:Pat}{i:Nat}(h:l.length≤i):a7k S l p i=l.map λf=>[.bool (S.det f p)]:=by
 unfold a7k;apply f8l;intro j;rw[f4q,f4q];cases hj:l[j]? with
 |none=>rw[f6h (by have:=List.getElem?_eq_none_iff.1 hj;simpa using this)];rfl
 |some f=>
  have aS:=(c13.1 hj).1;have hD:l.getD j fD=f:=by rw[f8a,hj];rfl
  rw[g07 aS];simp only[f5x];rw[f6e (by omega),hD]
theorem a7t(S:Sim)(l:List Flt)(p:Pat)(i:Nat):FlatR (a7k S l p i):=FlatR.map λ_=>rfl
def a2u(l:List Flt)(t:Nat):List Flt:=(l.drop (64*t)).take 64
theorem d4e(l:List Flt)(t:Nat)(h:64*t<l.length):(l.take (min (64*t+64) l.length)).drop (64*t)=a2u l t:=by
 unfold a2u;rw[List.drop_take];by_cases h1:64*t+64≤l.length
 ·rw[Nat.min_eq_left h1,g10]
 ·rw[Nat.min_eq_right (by omega),f4l (by simp),f4l (by simp;omega)]
theorem c9z{l:List Flt}{t:Nat}{f:Flt}(h:f∈a2u l t):f∈l:=List.mem_of_mem_drop (List.mem_of_mem_take h)
theorem d00(l:List Flt)(t:Nat):(a2u l t).length=min 64 (l.length-64*t):=by unfold a2u;simp
theorem d01{l:List Flt}{t q:Nat}(h:q<64):(a2u l t)[q]?=l[64*t+q]?:=by unfold a2u;rw[g0s,f6e h,g1s]
theorem c99(c:Cir)(h:c.wf)(rl:Rep)(l:List Flt)(p:Pat)(aQ:l.length≤1000)(hf:∀f∈l,FltOk c.nodes f)(hp:PatOk c.nodes p)(ord:List Nat)(du:ord.Perm (List.range c.nodes.length))
 (az:∀(d:Bool) (H:a03),a0b L.env d (sem L.env Mf) (.func (.func 41) [] []) [.agg c.enc] H=some (.agg (b2q c ord net0V pin0V),H,[])) :
 sem L.env Mf 18 [.agg c.enc,sl rl (l.map Flt.enc),.agg p.enc] []=some (.tuple [.islice (l.map λf=>[.bool ((a1x c ord).det f p)]) (some l.length),.int .i64 0],[]):=by
 have cG:=h.len;have bZ:=λ(X Y:Option AObj)=>a2e (E:=L.env) (ag:=false) (call:=sem L.env Mf) (g:=40) (fs:=[]) (cs:=[]) (ar:=[.agg c.enc,sl rl (l.map Flt.enc),.slice 2 0 1 (some 1)]) (H:=[X,Y,some (.row 2 ([p].map Pat.enc))]) (b:=2) (by kernel_rfl) (by kernel_rfl) rfl rfl (a0r (d49 [p])) (FlatO.row (d49 [p])) (by simp only[e14,f4g,a07,a11,Cir.enc,go_sem]) (au:=[.agg c.enc,sl rl (l.map Flt.enc),.slice 0 0 1 (some 1)]) (by simp only[e14,f4g,c10,f4h,a20,c5g,b8h]) (e3e c h rl l [p] (by omega) (by simp) hf (by simpa using hp)) rfl;have aE:l.length≤1000000000:=by omega
 obtain⟨r0,e3⟩:=a3b (kinds c.nodes 0);obtain⟨r1,e4⟩:=a3b (kinds c.nodes 14);have ns:∀net pin,b2q c ord net pin=[sl c.nc (c.nodes.map Nd.enc),sl c.mc (c.names.map a13),.nilslice,sl c.oc (c.outs.map a0a),.islice (ord.map a0a) (some c.nodes.length),sl r0 ((kinds c.nodes 0).map a0a),sl r1 ((kinds c.nodes 14).map a0a),net,pin]:=by intro net pin;unfold b2q;rw[e3,e4]
 have py:net0V.storable=true:=rfl;have jg:pin0V.storable=true:=rfl;have cw:∀n∈ord,n<c.nodes.length:=λn hn=>by have:=du.mem_iff.1 hn;simpa using this
 have bW:ord.length≤1000:=by rw[du.length_eq];simp;omega
 have eP:=λH=>az false H;have qW:=a3h c.nodes 0;have gp:=a3h c.nodes 14;have iF:=λH=>b8p (d:=true) H p.ic p.ins (by have:=hp.ins;omega) hp.inv;have gJ:=λH=>b8p (d:=true) H p.sc p.sts (by have:=hp.sts;omega) hp.stv;have eA:=λH=>c75 (d:=false) H c h ord cw bW net0V pin0V hk0 (f4z _) (f4r _) none none (p.ins.map a1i) (p.sts.map a1i) (by rw[f4j];exact hp.ins) (by rw[f4j];exact hp.sts);rw[ns]at eP;simp only[ns]at eA;simp only[Cir.enc]at bZ eP⊢;have fu:[p].map Pat.enc=[[sl p.ic (p.ins.map u8R),sl p.sc (p.sts.map u8R)]]:=rfl;rw[fu]at bZ;have qL:Pat.enc p=[sl p.ic (p.ins.map u8R),sl p.sc (p.sts.map u8R)]:=rfl;rw[qL]
 suffices hs:∃r:AV×a03,(r=(.tuple [.islice (l.map λf=>[.bool ((a1x c ord).det f p)]) (some l.length),.int .i64 0],[]))∧sem L.env Mf 18 [.agg [sl c.nc (c.nodes.map Nd.enc),sl c.mc (c.names.map a13),.nilslice,sl c.oc (c.outs.map a0a)],sl rl (l.map Flt.enc),.agg [sl p.ic (p.ins.map u8R),sl p.sc (p.sts.map u8R)]] []=some r by obtain⟨r,rfl,h3⟩:=hs;exact h3
 (refine svE Tryz.f18 ?_;simp only[Tryz.f18,gS])
 generalize hG:(a1x c ord).nets a31 hk0 (p.ins.map a1i) (p.sts.map a1i)=G at eA;generalize hSG:(a1x c ord).seen a31 hk0 G=SG at eA;have gI:G.length=c.nodes.length:=by rw[←hG];exact a9u _ _ _ _ _
 (repeat first|simp only[ww]|(apply xa;simp+decide only[go_sem,bZ,aE,eP,py,jg,iF,gJ,eA];rfl;kernel_rfl))
 have eW:refs net0V=[]:=rfl;have iW:refs pin0V=[]:=rfl;have eG:∀π,ren π net0V=net0V:=λπ=>rfl;have jM:∀π,ren π pin0V=pin0V:=λπ=>rfl;refine a0q (σ:=Nat) kp18_0 (λk=>[(1,sl rl (l.map Flt.enc)),(9,.ptr 0 0 0),(10,sl none ((p.ins.map a1i).map W.enc)),(11,sl none ((p.sts.map a1i).map W.enc)),(12,.islice (G.map W.enc) (some c.nodes.length)),(13,sl none (SG.map W.enc)),(14,.slice 1 0 l.length (some l.length)),(15,.int .i64 (64*k:Nat))]) (λk=>[some (.row 9 [[sl c.nc (c.nodes.map Nd.enc),sl c.mc (c.names.map a13),.nilslice,sl c.oc (c.outs.map a0a),.islice (ord.map a0a) (some c.nodes.length),sl r0 ((kinds c.nodes 0).map a0a),sl r1 ((kinds c.nodes 14).map a0a),net0V,pin0V]]),some (.row 1 (a7k (a1x c ord) l p (64*k)))]) (λk=>(l.length+63)/64-k) (λk=>k≤(l.length+63)/64) 0 ?_ (f4m _) ?_
 ·have e0:=d06 (a1x c ord) l p;rw[←e0]at *;have h1:=a0f (a7t (a1x c ord) l p 0);have h2:=λπ=>a0c π (a7t (a1x c ord) l p 0);generalize a7k (a1x c ord) l p 0=D at h1 h2
  (simp+decide only[go_sem,a02,a00,eW,iW,eG,jM,h1,h2]<;>rfl)<;>rfl
 ·intro k hk;by_cases ah:64*k<l.length
  ·have c1:((64*k:Nat):Int)<l.length:=by omega
   have nT:IntKind.i64.wrap (((64*k:Nat):Int)+64)=((64*(k+1):Nat):Int):=by rw[w64 (by omega) (by omega)];omega
   obtain⟨rp,m4⟩:=e88 rl (l.map Flt.enc) (64*k) (min (64*k+64) l.length);rw[←List.map_take,←List.map_drop,d4e l k ah]at m4;have dY:(if(l.length:Int)<((64*(k+1):Nat):Int)then(l.length:Int)else((64*(k+1):Nat):Int))=((min (64*k+64) l.length:Nat):Int):=by split<;>omega
   have q8:inB ((min (64*k+64) l.length:Nat):Int) l.length=true:=e19 (by omega);have pJ:inB ((64*k:Nat):Int) (min (64*k+64) l.length)=true:=e19 (by omega);have rI:(l.map Flt.enc).all (λr=>decide (r.length=5))=true:=by simp[Flt.enc]
   have cD:=d00 l k;obtain⟨net,pin,aM,aP,hO,vD,vz,gi,uB,oS⟩:=d4m c h ord rp (some (some c.nodes.length)) (a2u l k) G (λf tj=>hf f (c9z tj)) (by omega) gI;have oS:=λH=>oS false H;have d6:=λH=>c75 (d:=false) H c h ord cw bW net pin (b4p (a2u l k) G aM aP) vD vz none none (p.ins.map a1i) (p.sts.map a1i) (by rw[f4j];exact hp.ins) (by rw[f4j];exact hp.sts);have ni:=λH=>c1m (d:=false) H none none SG ((a1x c ord).seen a31 (b4p (a2u l k) G aM aP) ((a1x c ord).nets a31 (b4p (a2u l k) G aM aP) (p.ins.map a1i) (p.sts.map a1i))) (by rw[←hSG,c07,c07];omega) (by rw[←hSG,c07];have:=h.outl;omega);have oX:∀q f,(a2u l k)[q]?=some f→(c25 SG ((a1x c ord).seen a31 (b4p (a2u l k) G aM aP) ((a1x c ord).nets a31 (b4p (a2u l k) G aM aP) (p.ins.map a1i) (p.sts.map a1i))) 0).getLsbD q=(a1x c ord).det f p:=by intro q f hq;have eQ:=(c13.1 hq).1;have hh:=e4y (good:=G) hO (by omega) hq;rw[←hG]at hh;have:=d93 (a1x c ord) (j:=q) (by omega) f p (p.ins.map a1i) (p.sts.map a1i) (b93 (by omega) _) (b93 (by omega) _) _ hh;rw[hG]at this;rw[←hSG];exact this
   generalize c25 SG ((a1x c ord).seen a31 (b4p (a2u l k) G aM aP) ((a1x c ord).nets a31 (b4p (a2u l k) G aM aP) (p.ins.map a1i) (p.sts.map a1i))) 0=wd at ni oX;generalize(a1x c ord).nets a31 (b4p (a2u l k) G aM aP) (p.ins.map a1i) (p.sts.map a1i)=G2 at d6 ni;generalize(a1x c ord).seen a31 (b4p (a2u l k) G aM aP) G2=SG2 at d6 ni;simp only[ns]at oS d6;simp only[b0v]at oS
   (repeat first|simp only[ww]|(apply xa;simp+decide only[go_sem,c1,nT,f7f,dY,q8,pJ,rI,m4,oS,d6,ni];rfl;kernel_rfl))
   refine a0q (σ:=Nat) kp18_2 (λq=>[(1,sl rl (l.map Flt.enc)),(9,.ptr 0 0 0),(10,sl none ((p.ins.map a1i).map W.enc)),(11,sl none ((p.sts.map a1i).map W.enc)),(12,.islice (G.map W.enc) (some c.nodes.length)),(13,sl none (SG.map W.enc)),(14,.slice 1 0 l.length (some l.length)),(15,.int .i64 (64*k:Nat)),(19,u64 wd),(75,.int .i64 (a2u l k).length),(76,.int .i64 q)]) (λq=>[some (.row 9 [[sl c.nc (c.nodes.map Nd.enc),sl c.mc (c.names.map a13),.nilslice,sl c.oc (c.outs.map a0a),.islice (ord.map a0a) (some c.nodes.length),sl r0 ((kinds c.nodes 0).map a0a),sl r1 ((kinds c.nodes 14).map a0a),net0V,pin0V]]),some (.row 1 (a7k (a1x c ord) l p (64*k+q)))]) (λq=>(a2u l k).length-q) (λq=>q≤(a2u l k).length) 0 ?_ (f4m _) ?_
   ·rw[g1w];have h1:=a0f (a7t (a1x c ord) l p (64*k));have h2:=λπ=>a0c π (a7t (a1x c ord) l p (64*k));generalize a7k (a1x c ord) l p (64*k)=D at h1 h2
    (simp+decide only[go_sem,a02,a00,eW,iW,eG,jM,h1,h2]<;>rfl)<;>rfl
   ·intro q hq;by_cases eQ:q<(a2u l k).length
    ·obtain⟨f,ti⟩:∃f,(a2u l k)[q]?=some f:=⟨_,z9e eQ⟩
     have s7:=ti;rw[d01 (by omega)]at s7;have jC:=d07 (S:=(a1x c ord)) (p:=p) s7;have c2:(q:Int)<(a2u l k).length:=by omega
     have c3:¬(q:Int)<0:=by omega
     have lW:=wI1 (n:=q) (by omega);have lg:IntKind.i64.wrap (((64*k:Nat):Int)+(q:Int))=((64*k+q:Nat):Int):=by rw[w64 (by omega) (by omega)];omega
     have hb:=c8g wd q;rw[oX q f ti]at hb;have gO:=b2d (a1x c ord) l p (64*k+q);have pI:64*k+q<l.length:=by omega
     have jV:=a7t (a1x c ord) l p (64*k+(q+1));have te:=b76 (S:=(a1x c ord)) (p:=p) (i:=64*k+q) pI;rw[show 64*k+q+1=64*k+(q+1) by omega]at jC;generalize(a1x c ord).det f p=bt at hb jC;have h1:=a0f jV;have h2:=λπ=>a0c π jV;generalize hD2:a7k (a1x c ord) l p (64*k+(q+1))=D2 at h1 h2 jC;generalize a7k (a1x c ord) l p (64*k+q)=D at gO te jC
     (repeat first|simp only[ww]|(apply xa;simp+decide only[go_sem,c2,c3,lW,lg,hb,gO,pI,te,jC];rfl;kernel_rfl))
     refine a21 (q+1) ?_ (by omega) (by omega);simp only[hD2]
     (simp+decide only[go_sem,a02,a00,eW,iW,eG,jM,h1,h2]<;>rfl)<;>rfl
    ·obtain rfl:q=(a2u l k).length:=by omega
     have c2:¬((a2u l k).length:Int)<(a2u l k).length:=by omega
     have jH:a7k (a1x c ord) l p (64*k+(a2u l k).length)=a7k (a1x c ord) l p (64*(k+1)):=by
      by_cases ny:(a2u l k).length=64
      ·rw[ny];rfl
      ·rw[b77 (by omega),b77 (by omega)]
     rw[jH];have h1:=a0f (a7t (a1x c ord) l p (64*(k+1)));have h2:=λπ=>a0c π (a7t (a1x c ord) l p (64*(k+1)));generalize hD2:a7k (a1x c ord) l p (64*(k+1))=D at h1 h2
     (repeat first|simp only[ww]|(apply xa;simp+decide only[go_sem,c2,nT];rfl;kernel_rfl))
     refine a21 (k+1) ?_ (by omega) (by omega);simp only[hD2]
     (simp+decide only[go_sem,a02,a00,eW,iW,eG,jM,h1,h2]<;>rfl)<;>rfl
  ·have c1:¬((64*k:Nat):Int)<l.length:=by omega
   have jV:=a7t (a1x c ord) l p (64*k);have tn:=b77 (S:=(a1x c ord)) (l:=l) (p:=p) (i:=64*k) (by omega);have gO:=b2d (a1x c ord) l p (64*k);generalize hD:a7k (a1x c ord) l p (64*k)=D at jV tn gO
   (repeat first|simp only[ww]|(apply xa;simp+decide only[go_sem,c1];rfl;kernel_rfl))
   refine a5l (vs:=[.slice 1 0 l.length (some l.length),.int .i64 0]) (r:=(_,[])) (by simp+decide only[go_sem]) ?_ rfl;show a1f false 0 (.tuple [.slice 1 0 l.length (some l.length),.int .i64 0]) _=_;have fj:D.take l.length=D:=f4l (by omega);rw[←tn];simp+decide only[go_sem,a12 _ _ jV,gO,fj]
end Go.TInst
