/- Part of a proof. No condition. -/
import Derived.Test.YtlldffjabagdbaaGreatDoorTDa
import Derived.Test.YtlldffjabagdbaaGreatDoorTGa
import Derived.Test.YtlldffjabagdbaaGreatDoorTNe
import Derived.Test.YtlldffjabagdbaaGreatDoorTIn
import Derived.Test.YtlldffjabagdbaaGreatDoorAxD
import Derived.Test.YtlldffjabagdbaaGreatDoorTPa
set_option linter.unusedSectionVars false
set_option linter.unusedSimpArgs false
set_option linter.unusedVariables false
namespace Go.TInst
open Go.Proofs Go.Ax Go.Pc
set_option maxRecDepth 100000
structure StOk(c:Cir)(g:Flt):Prop where
 ok:FltOk c.nodes g
 m0:g.model=0
theorem e4m(c:Cir)(h:c.wf)(f:FX)(hf:f.ok):∃g,StOk c g∧sem L.env Mf 38 [.agg (FX.enc { f with model:=0 }),.agg c.enc] []=some (.agg g.enc,[]):=by
 obtain⟨f1,f2,f3,f4⟩:=hf;have hn:=h.len;have hp:=h.pos;have c0:¬(c.nodes.length:Int)=0:=by omega
 have bQ:f.node%c.nodes.length<c.nodes.length:=Nat.mod_lt _ hp;have w2:=wI (n:=f.node) (by omega);have w3:=wI (n:=f.node%c.nodes.length) (by omega);have w6:=wI (n:=f.pin) (by omega);have w0:IntKind.u8.wrap 0=0:=rfl;generalize hN1:f.node%c.nodes.length=nd at bQ w3;obtain⟨x,hx⟩:∃x,c.nodes[nd]?=some x:=⟨_,z9e bQ⟩
 have cM:=h.insl (c11 hx);have hq:=Nat.mod_lt f.pin (show 0<x.ins.length+1 by omega);have p1:IntKind.i64.wrap ((x.ins.length:Int)+1)=((x.ins.length+1:Nat):Int):=wI1 (by omega);have p2:IntKind.i64.wrap ((f.pin%(x.ins.length+1):Nat):Int)=((f.pin%(x.ins.length+1):Nat):Int):=wI (by omega);have p3:IntKind.i64.wrap (((f.pin%(x.ins.length+1):Nat):Int)-1)=((f.pin%(x.ins.length+1):Nat):Int)-1:=w64 (by omega) (by omega);have p4:¬((x.ins.length+1:Nat):Int)=0:=by omega
 cases ho:f.one
 ·refine⟨⟨0,nd,((f.pin%(x.ins.length+1):Nat):Int)-1,0,0⟩,⟨d1g hx (by omega),rfl⟩,?_⟩;simp only[Cir.enc,FX.enc,ho]
  (refine sv Tryz.f38 ?_;simp only[Tryz.f38,gS])
  (repeat first|simp only[ww]|(apply xa;simp+decide only[go_sem,c0,w2,w3,w6,w0,hN1,hx,bQ,p1,p2,p3,p4];rfl;kernel_rfl))
  (apply fqb;simp+decide only[go_sem,hx,hN1,p1,p2,p3,p4,Flt.enc]<;>rfl)
 ·refine⟨⟨0,nd,((f.pin%(x.ins.length+1):Nat):Int)-1,1,0⟩,⟨d1g hx (by omega),rfl⟩,?_⟩;simp only[Cir.enc,FX.enc,ho]
  (refine sv Tryz.f38 ?_;simp only[Tryz.f38,gS])
  (repeat first|simp only[ww]|(apply xa;simp+decide only[go_sem,c0,w2,w3,w6,w0,hN1,hx,bQ,p1,p2,p3,p4];rfl;kernel_rfl))
  (apply fqb;simp+decide only[go_sem,hx,hN1,p1,p2,p3,p4,Flt.enc]<;>rfl)
theorem d47(c:Cir)(h:c.wf)(f:FX)(hf:f.ok):∃g,StOk c g∧∀(d:Bool) (H:a03),a0b L.env d (sem L.env Mf) (.func (.func 38) [] []) [.agg (FX.enc { f with model:=0 }),.agg c.enc] H=some (.agg g.enc,H,[]):=by obtain⟨g,h1,h2⟩:=e4m c h f hf;exact⟨g,h1,λd H=>a04 (by kernel_rfl) (by kernel_rfl) rfl (by simp only[a07,a11,Cir.enc,FX.enc,go_sem]) h2 rfl⟩
def c0s(x:CX):CX:={ x with bus:=false }
theorem d7c{x:CX}(hx:x.ok):(c0s x).ok:=⟨hx.1,hx.2,hx.3,hx.4,hx.5,hx.6⟩
def a5r(x:CX):Cir:=(b4m (c0s x)).cir
theorem d2b(x:CX)(hx:x.ok):sem L.env Mf 7 [.agg x.enc] []=some (.agg (a5r x).enc,[]):=by
 have hc:=λH=>c4b (d:=false) H (c0s x) (d7c hx);rw[show(b4m (c0s x)).cir=a5r x from rfl]at hc;generalize a5r x=c at hc;simp only[go_sem,c0s]at hc;simp only[Cir.enc]at hc
 (refine sv Tryz.f7 ?_;simp only[Tryz.f7,gS])
 (repeat first|simp only[ww]|(apply xa;simp+decide only[go_sem,hc];rfl;kernel_rfl))
 (apply fqb;simp+decide only[go_sem,Cir.enc]<;>rfl)
theorem c5i{d:Bool}(H:a03)(x:CX)(hx:x.ok):a0b L.env d (sem L.env Mf) (.func (.func 7) [] []) [.agg x.enc] H=some (.agg (a5r x).enc,H,[]):=a04 (by kernel_rfl) (by kernel_rfl) rfl (by simp only[go_sem]) (d2b x hx) (b4u _)
theorem c3t(g:GX)(ks:List Nat):(a0p false g ks).kind≠12∧(a0p false g ks).kind≠13:=by
 unfold a0p;simp only[f9h,g0z];have h9:g.kind%9<9:=Nat.mod_lt _ (by omega);generalize g.kind%9=k at h9;split
 ·split<;>(constructor<;>(show(5+k:Nat)≠_;omega))
 split
 ·constructor<;>(show(4:Nat)≠_;omega)
 split
 ·constructor<;>(show(11:Nat)≠_;omega)
 split
 ·omega
 split
 ·omega
 split
 ·constructor<;>(show(1+g.i0%2:Nat)≠_;omega)
 ·constructor<;>(show(3:Nat)≠_;omega)
theorem c7v:∀(l:List GX) (ks:List Nat),∀x∈gN false ks l,x.kind≠12∧x.kind≠13
 | [],_,x,hx=>by simp[gN]at hx
 |g::l,ks,x,hx=>by
  simp only[gN,f6m]at hx;rcases hx with rfl|hx
  ·exact c3t g ks
  ·exact c7v l _ x hx
theorem c2v(x:CX):∀n∈(a5r x).nodes,n.kind≠12∧n.kind≠13:=by
 intro n hn;have hn:n∈(b4m (c0s x)).nodes:=hn;unfold CX.nodes at hn;simp only[f8n]at hn;rcases hn with (hn|hn)|hn
 ·rw[f9u hn];constructor<;>(show(0:Nat)≠_;omega)
 ·unfold CX.dn at hn;obtain⟨v,_,rfl⟩:=g01.1 hn;constructor<;>(show(14:Nat)≠_;omega)
 ·exact c7v _ _ n hn
structure Bits(c:Cir)(p:Pat):Prop where
 ok:PatOk c.nodes p
 b1:∀v∈p.ins,v≤1
 b2:∀v∈p.sts,v≤1
theorem c15:∀(is vs N:List Nat),(∀v∈N,v≤1)→(∀v∈vs,v≤1)→∀v∈a1l N is vs,v≤1
 | [],vs,N,h,_=>by cases vs<;>exact h
 |_::_,[],N,h,_=>h
 |i::is,w::vs,N,h,hv=>by
  simp only[a1l];refine c15 is vs _ (λv hm=>?_) (λv hm=>hv v (g12 _ hm));rcases g0u hm with h1|h1
  ·exact h v h1
  ·rw[h1];exact hv w (List.mem_cons_self ..)
def b3n(c:Cir)(ord:List Nat)(p:Pat)(fs:List Flt):Ded:=⟨c.nodes,ord,a1l (a1l (List.replicate c.nodes.length 0) (kinds c.nodes 0) p.ins) (kinds c.nodes 14) p.sts,fs⟩
theorem e56(c:Cir)(ord:List Nat)(p:Pat)(fs:List Flt):(b3n c ord p fs).G=a4u c ord p:=rfl
section
variable {c:Cir}(hc:c.wf)(bV:∀x∈c.nodes,x.kind≠12∧x.kind≠13)(hO:c.outs≠[]){ord:List Nat}(aR:OrdOf c ord){p:Pat}(hp:Bits c p){fs:List Flt}(hf:∀f∈fs,StOk c f)(hl:fs.length≤1000)
include hc bV aR hp hf hl
theorem d2t:Mach0 c (b3n c ord p fs):=by
 have aI:∀n,n<c.nodes.length→∃x,c.nodes[n]?=some x∧x∈c.nodes∧a0e c.nodes n=x.kind∧a15 c.nodes n=x.ins:=λn hn=>by
  obtain⟨x,hx⟩:∃x,c.nodes[n]?=some x:=⟨_,z9e hn⟩
  exact⟨x,hx,c11 hx,a0y hx,a1c hx⟩
 refine⟨rfl,⟨aR.perm,aR.topo,λn hn h=>?_,λn hn m hm=>?_,λn hn=>?_,λn hn=>?_,λn hn=>?_,?_,?_,λf hm=>?_⟩,hl,by have:=hc.len;omega,hc.pos,λx hx=>hc.insl hx,hc.kind⟩
 ·obtain⟨x,_,hx,hk,_⟩:=aI n hn;show a1o (a0e c.nodes n)=true;have h:a0e c.nodes n≠0∧a0e c.nodes n≠14:=h;have k14:=hc.kind x hx;rw[hk]at h⊢;have a:1≤x.kind:=by omega
  have b:x.kind≤13:=by omega
  simp[a1o,a,b]
 ·obtain⟨x,_,hx,_,hi⟩:=aI n hn;have hm:m∈a15 c.nodes n:=hm;rw[hi]at hm;exact hc.ins x hx m hm
 ·obtain⟨x,_,hx,hk,hi⟩:=aI n hn;show a1e (a0e c.nodes n)≤(a15 c.nodes n).length;rw[hk,hi];exact hc.lo x hx
 ·obtain⟨x,_,hx,hk,hi⟩:=aI n hn;show(a15 c.nodes n).length≤a1m (a0e c.nodes n);rw[hk,hi];exact hc.hi x hx
 ·obtain⟨x,_,hx,hk,_⟩:=aI n hn;show a0e c.nodes n≠12∧a0e c.nodes n≠13;rw[hk];exact bV x hx
 ·show(a1l (a1l _ _ _) _ _).length=_;rw[a2g,a2g,List.length_replicate];rfl
 ·exact c15 _ _ _ (c15 _ _ _ (λv hv=>by rw[f9u hv];omega) hp.b1) hp.b2
 ·have h:=hf f hm;exact⟨h.m0,h.ok.value,h.ok.pin.1,h.ok.node⟩
include hO
theorem d9m:DCalls c p (b3n c ord p fs):=by
 have bR:=hp.ok.ins;have eH:=hp.ok.sts;have h0:=a3h c.nodes 0;have h14:=a3h c.nodes 14;have hn:=hc.len;refine⟨⟨_,λd H=>c6c (d:=d) H c hc⟩,λf hm d H=>?_,λd H=>?_,⟨a6m (a1q c.outs (a4u c ord p)),a6m (a3y c.nodes (a4u c ord p)),a2s _,a2s _,λd H=>?_⟩,λd H=>aR.call d H,hp.b1,hp.b2,by omega,by omega⟩
 ·exact a90 (d:=d) H c hc f (hf f hm).ok
 ·exact b0w (d:=d) H c hc p hp.ok
 ·exact a04 (E:=L.env) (ag:=d) (call:=sem L.env Mf) (H:=H) (g:=9) (fs:=[]) (cs:=[]) (ar:=[.agg c.enc,.agg p.enc]) (by kernel_rfl) (by kernel_rfl) rfl (by simp only[e14,f4g,a07,a11,Cir.enc,Pat.enc,go_sem]) (d1q c hc hO p hp.ok ord aR) (by simp only[go_sem,a3p,f4g])
end
theorem e1n(x:BitVec 64)(k:Nat):∃b:Nat,b≤1∧IntKind.u8.wrap (((x>>>k&&&BitVec.ofInt 64 1).toNat:Nat):Int)=(b:Int):=by
 have h:(x>>>k&&&BitVec.ofInt 64 1).toNat≤1:=by rw[BitVec.toNat_and];exact Nat.and_le_right
 exact⟨_,h,wB (n:=(x>>>k&&&BitVec.ofInt 64 1).toNat) (by omega)⟩
theorem e4h(c:Cir)(hc:c.wf)(na:kinds c.nodes 0≠[])(x:BitVec 64):∃r:AV×a03,(∃p,Bits c p∧r=(.agg p.enc,[]))∧sem L.env Mf 8 [.agg [sl c.nc (c.nodes.map Nd.enc),sl c.mc (c.names.map a13),.nilslice,sl c.oc (c.outs.map a0a)],u64 x] []=some r:=by
 have hn:=hc.len;have fS:∀l:List Nat,(l.map u8R).flatMap a0l=[]:=λl=>a0f (a1r l);have d6:∀(π:Nat→Option Nat) (l:List Nat),(l.map u8R).map (λr=>r.map (ren π))=l.map u8R:=λπ l=>a0c π (a1r l);have kn:∀{m:Nat} {d:AV→Option AV} (l:List Nat),a9g m d (l.map u8R)=some (l.map u8R):=λl=>a12 _ _ (a1r l);have ny:((BitVec.ofInt 64 64)=0)=False:=by decide
 (refine svE Tryz.f8 ?_;simp only[Tryz.f8,gS])
 (repeat first|simp only[ww]|(apply xa;simp+decide only[go_sem];rfl;kernel_rfl))
 refine a4l kp8_0 (λN F H=>∃(i:Nat) (K:BitVec 64) (a:List Nat),N=c.nodes.length-i∧i≤c.nodes.length∧a.length=(a40 c.nodes 0 i).length∧(∀v∈a,v≤1)∧
  F=[(1,u64 x),(2,.ptr 0 0 0),(4,.ptr 1 0 0),(5,.ptr 2 0 0),(6,u64 K),(7,.int .i64 (i:Nat))]∧H=[some (.row 4 [[sl c.nc (c.nodes.map Nd.enc),sl c.mc (c.names.map a13),.nilslice,sl c.oc (c.outs.map a0a)]]),some (.row 2 [[.nilslice,.nilslice]]),some (.row 2 [[grV 3 (a.map u8R),.nilslice]])]++grH 1 (a.map u8R)) (c.nodes.length-0) ?_ ?_
 ·refine⟨_,_,?_,0,0,[],rfl,f4m _,rfl,by simp,rfl,rfl⟩
  (simp+decide only[go_sem,a02,a00,f4h,a0g,a0h]<;>rfl)<;>rfl
 ·rintro N F H ⟨i,K,a,rfl,hi,eL,bu,rfl,rfl⟩
  have bC:=b1z c.nodes 0 i;by_cases ah:i<c.nodes.length
  ·obtain⟨nd,hx⟩:∃x,c.nodes[i]?=some x:=⟨_,z9e ah⟩
   have c1:(i:Int)<c.nodes.length:=by omega
   have hw:=wI1 (n:=i) (by omega);have hs:=b15 c.nodes 0 i;rw[a0y hx]at hs;have aE:a.length+1≤1000000000:=by omega
   by_cases hk:nd.kind=0
   ·rw[f6e hk]at hs;have dE:(nd.kind:Int)=0:=by omega
    obtain⟨b,da,eK⟩:=e1n x (K%BitVec.ofInt 64 64).toNat;have bR:(a++[b]).length=(a40 c.nodes 0 (i+1)).length:=by rw[hs,f5z,f5z,eL];rfl
    have kg:∀v∈a++[b],v≤1:=λv hv=>by rcases f8n.1 hv with h|h;exact bu v h;rw[f6f.1 h];exact da
    cases a with
    |nil=>
     (repeat first|simp only[ww]|(apply xa;simp+decide only[go_sem,c1,ah,hx,dE,hw,ny,eK,f4h,a0g,a0h];rfl;kernel_rfl))
     refine a1j (c.nodes.length-(i+1)) (by omega) ⟨_,_,?_,i+1,K+BitVec.ofInt 64 1,[b],rfl,ah,bR,kg,rfl,rfl⟩
     (simp+decide only[go_sem,a02,a00,c10,f4h,a05,a06,u8R,f4o]<;>rfl)<;>rfl
    |cons a0 r=>
     simp only[e12]at aE
     (repeat first|simp only[ww]|(apply xa;simp+decide only[go_sem,c1,ah,hx,dE,hw,ny,eK,c10,a05,a06,aE,f4j];rfl;kernel_rfl))
     refine a1j (c.nodes.length-(i+1)) (by omega) ⟨_,_,?_,i+1,K+BitVec.ofInt 64 1,a0::r++[b],rfl,ah,bR,kg,rfl,rfl⟩
     (simp+decide only[go_sem,a02,a00,f6a,c10,f6c,f4h,a05,a06,fS,d6,u8R,f4j,f5z,e12,f4o]<;>rfl)<;>rfl
   ·rw[f4n hk]at hs;have dE:¬(nd.kind:Int)=0:=by omega
    rw[←hs]at eL;cases a with
    |nil=>
     (repeat first|simp only[ww]|(apply xa;simp+decide only[go_sem,c1,ah,hx,dE,hw,f4h,a0g,a0h];rfl;kernel_rfl))
     refine a1j (c.nodes.length-(i+1)) (by omega) ⟨_,_,?_,i+1,K,[],rfl,ah,eL,bu,rfl,rfl⟩
     (simp+decide only[go_sem,a02,a00,f4h,a0g,a0h]<;>rfl)<;>rfl
    |cons a0 r=>
     (repeat first|simp only[ww]|(apply xa;simp+decide only[go_sem,c1,ah,hx,dE,hw,c10,a05,a06,f4j];rfl;kernel_rfl))
     refine a1j (c.nodes.length-(i+1)) (by omega) ⟨_,_,?_,i+1,K,a0::r,rfl,ah,eL,bu,rfl,rfl⟩
     (simp+decide only[go_sem,a02,a00,c10,a05,a06,fS,d6,u8R,f4j]<;>rfl)<;>rfl
  ·obtain rfl:i=c.nodes.length:=by omega
   have c1:¬(c.nodes.length:Int)<c.nodes.length:=by omega
   cases a with
   |nil=>exact absurd (g0q.1 eL.symm) na
   |cons a0 r=>
    have nu:=fS (a0::r);have nv:=λπ=>d6 π (a0::r);have kY:=λ(m:Nat) (d:AV→Option AV)=>kn (m:=m) (d:=d) (a0::r);have gQ:((a0::r).map u8R).length=r.length+1:=by simp
    have kW:((a0::r).map u8R).take (r.length+1)=(a0::r).map u8R:=f4l (by simp);have o7:grV 3 ((a0::r).map u8R) = .slice 3 0 (r.length+1) none:=by simp only[c10,a05,f4j]
    have ph:grH 1 ((a0::r).map u8R)=[some (.row 1 ((a0::r).map u8R))]:=by simp only[c10,a06]
    rw[o7,ph];have bh:∀(B:List Nat),B.length=(a40 c.nodes 14 c.nodes.length).length→(∀v∈B,v≤1)→∀sc:Rep,∃p,Bits c p∧((AV.agg [.islice ((a0::r).map u8R) none,sl sc (B.map u8R)],[]):AV×a03)=(.agg p.enc,[]):=by intro B hB hb sc;exact⟨⟨some none,a0::r,sc,B⟩,⟨⟨eL,hB,λv hv=>by have:=bu v hv;omega,λv hv=>by have:=hb v hv;omega⟩,bu,hb⟩,rfl⟩
    generalize hAR:(a0::r).map u8R=AR at nu nv kY gQ kW bh
    (repeat first|simp only[ww]|(apply xa;simp+decide only[go_sem,c1];rfl;kernel_rfl))
    refine a4l kp8_2 (λN F H=>∃(i:Nat) (K:BitVec 64) (B:List Nat),N=c.nodes.length-i∧i≤c.nodes.length∧B.length=(a40 c.nodes 14 i).length∧(∀v∈B,v≤1)∧
     F=[(1,u64 x),(2,.ptr 0 0 0),(4,.ptr 1 0 0),(5,.ptr 2 0 0),(6,u64 K),(8,.int .i64 (i:Nat))]∧H=[some (.row 4 [[sl c.nc (c.nodes.map Nd.enc),sl c.mc (c.names.map a13),.nilslice,sl c.oc (c.outs.map a0a)]]),some (.row 2 [[.nilslice,.nilslice]]),some (.row 2 [[.slice 3 0 (r.length+1) none,grV 4 (B.map u8R)]]),some (.row 1 AR)]++grH 1 (B.map u8R)) (c.nodes.length-0) ?_ ?_
    ·refine⟨_,_,?_,0,K,[],rfl,f4m _,rfl,by simp,rfl,rfl⟩
     (simp+decide only[go_sem,a02,a00,f4h,a0g,a0h,nu,nv]<;>rfl)<;>rfl
    ·rintro N F H ⟨i,K,B,rfl,hi,kV,pZ,rfl,rfl⟩
     have bC:=b1z c.nodes 14 i;by_cases ah:i<c.nodes.length
     ·obtain⟨nd,hx⟩:∃x,c.nodes[i]?=some x:=⟨_,z9e ah⟩
      have c1:(i:Int)<c.nodes.length:=by omega
      have hw:=wI1 (n:=i) (by omega);have hs:=b15 c.nodes 14 i;rw[a0y hx]at hs;have aE:B.length+1≤1000000000:=by omega
      by_cases hk:nd.kind=14
      ·rw[f6e hk]at hs;have dE:(nd.kind:Int)=14:=by omega
       obtain⟨b,da,eK⟩:=e1n x (K%BitVec.ofInt 64 64).toNat;have bR:(B++[b]).length=(a40 c.nodes 14 (i+1)).length:=by rw[hs,f5z,f5z,kV];rfl
       have kg:∀v∈B++[b],v≤1:=λv hv=>by rcases f8n.1 hv with h|h;exact pZ v h;rw[f6f.1 h];exact da
       cases B with
       |nil=>
        (repeat first|simp only[ww]|(apply xa;simp+decide only[go_sem,c1,ah,hx,dE,hw,ny,eK,f4h,a0g,a0h];rfl;kernel_rfl))
        refine a1j (c.nodes.length-(i+1)) (by omega) ⟨_,_,?_,i+1,K+BitVec.ofInt 64 1,[b],rfl,ah,bR,kg,rfl,rfl⟩
        (simp+decide only[go_sem,a02,a00,c10,f4h,a05,a06,u8R,f4o,nu,nv]<;>rfl)<;>rfl
       |cons b0 q=>
        simp only[e12]at aE
        (repeat first|simp only[ww]|(apply xa;simp+decide only[go_sem,c1,ah,hx,dE,hw,ny,eK,c10,a05,a06,aE,f4j];rfl;kernel_rfl))
        refine a1j (c.nodes.length-(i+1)) (by omega) ⟨_,_,?_,i+1,K+BitVec.ofInt 64 1,b0::q++[b],rfl,ah,bR,kg,rfl,rfl⟩
        (simp+decide only[go_sem,a02,a00,f6a,c10,f6c,f4h,a05,a06,fS,d6,u8R,f4j,f5z,e12,f4o,nu,nv]<;>rfl)<;>rfl
      ·rw[f4n hk]at hs;have dE:¬(nd.kind:Int)=14:=by omega
       rw[←hs]at kV;cases B with
       |nil=>
        (repeat first|simp only[ww]|(apply xa;simp+decide only[go_sem,c1,ah,hx,dE,hw,f4h,a0g,a0h];rfl;kernel_rfl))
        refine a1j (c.nodes.length-(i+1)) (by omega) ⟨_,_,?_,i+1,K,[],rfl,ah,kV,pZ,rfl,rfl⟩
        (simp+decide only[go_sem,a02,a00,f4h,a0g,a0h,nu,nv]<;>rfl)<;>rfl
       |cons b0 q=>
        (repeat first|simp only[ww]|(apply xa;simp+decide only[go_sem,c1,ah,hx,dE,hw,c10,a05,a06,f4j];rfl;kernel_rfl))
        refine a1j (c.nodes.length-(i+1)) (by omega) ⟨_,_,?_,i+1,K,b0::q,rfl,ah,kV,pZ,rfl,rfl⟩
        (simp+decide only[go_sem,a02,a00,c10,a05,a06,fS,d6,u8R,f4j,nu,nv]<;>rfl)<;>rfl
     ·obtain rfl:i=c.nodes.length:=by omega
      have c1:¬(c.nodes.length:Int)<c.nodes.length:=by omega
      have bh:=bh B kV pZ;cases B with
      |nil=>
       (repeat first|simp only[ww]|(apply xa;simp+decide only[go_sem,c1,f4h,a0g,a0h];rfl;kernel_rfl))
       refine a5l (vs:=[.agg [.slice 3 0 (r.length+1) none,.nilslice]]) (r:=(.agg [.islice AR none,.nilslice],[])) (by simp+decide only[go_sem]<;>rfl) ?_ (bh none);show a1f false 0 _ _=_;simp+decide only[go_sem,a5q,kY,gQ,kW]<;>rfl
      |cons b0 q=>
       have tQ:=λ(m:Nat) (d:AV→Option AV)=>kn (m:=m) (d:=d) (b0::q);have pi:((b0::q).map u8R).length=q.length+1:=by simp
       have tP:((b0::q).map u8R).take (q.length+1)=(b0::q).map u8R:=f4l (by simp);have vr:grV 4 ((b0::q).map u8R) = .slice 4 0 (q.length+1) none:=by simp only[c10,a05,f4j]
       have nr:grH 1 ((b0::q).map u8R)=[some (.row 1 ((b0::q).map u8R))]:=by simp only[c10,a06]
       have vK:sl (some none) ((b0::q).map u8R) = .islice ((b0::q).map u8R) none:=rfl;rw[vr,nr];have bh:=bh (some none);rw[vK]at bh;generalize(b0::q).map u8R=BR at tQ pi tP bh
       (repeat first|simp only[ww]|(apply xa;simp+decide only[go_sem,c1];rfl;kernel_rfl))
       refine a5l (vs:=[.agg [.slice 3 0 (r.length+1) none,.slice 4 0 (q.length+1) none]]) (r:=(.agg [.islice AR none,.islice BR none],[])) (by simp+decide only[go_sem]<;>rfl) ?_ bh;show a1f false 0 _ _=_;simp+decide only[go_sem,a5q,kY,gQ,kW,tQ,pi,tP]<;>rfl
theorem d42(c:Cir)(hc:c.wf)(na:kinds c.nodes 0≠[])(x:BitVec 64):∃p,Bits c p∧∀(d:Bool) (H:a03),a0b L.env d (sem L.env Mf) (.func (.func 8) [] []) [.agg c.enc,u64 x] H=some (.agg p.enc,H,[]):=by obtain⟨r,⟨p,hp,rfl⟩,h⟩:=e4h c hc na x;exact⟨p,hp,λd H=>a04 (by kernel_rfl) (by kernel_rfl) rfl (by simp only[a07,a11,Cir.enc,go_sem]) h (by simp only[a11,Pat.enc,go_sem])⟩
theorem d4p(x:CX)(hx:x.ok)(zr:Rep)(z:List FX)(hz:∀f∈z,f.ok)(ge:z.length<9223372036854775808):∃r:AV×a03,(∃(lr:Rep) (l:List Flt),l.length≤80∧(∀f∈l,StOk (a5r x) f)∧r=(.tuple [.agg (a5r x).enc,sl lr (l.map Flt.enc)],[]))∧sem L.env Mf 15 [.agg x.enc,sl zr (z.map FX.enc)] []=some r:=by
 have fK:=λH=>c5i (d:=false) H x hx;have hw:(a5r x).wf:=CX.wf _;generalize a5r x=c at fK hw⊢;have sU:=d47 c hw;have fS:∀l:List Flt,(l.map Flt.enc).flatMap a0l=[]:=λl=>a0f (FlatR.map λ_=>rfl);have d6:∀(π:Nat→Option Nat) (l:List Flt),(l.map Flt.enc).map (λr=>r.map (ren π))=l.map Flt.enc:=λπ l=>a0c π (FlatR.map λ_=>rfl);have kn:∀{m:Nat} {d:AV→Option AV} (l:List Flt),a9g m d (l.map Flt.enc)=some (l.map Flt.enc):=λl=>a12 _ _ (FlatR.map λ_=>rfl);simp only[go_sem]at fK;simp only[Cir.enc]at fK sU⊢;simp only[CX.enc]
 (refine svE Tryz.f15 ?_;simp only[Tryz.f15,gS])
 (repeat first|simp only[ww]|(apply xa;simp+decide only[go_sem,fK];rfl;kernel_rfl))
 refine a4l kp15_0 (λN F H=>∃(i:Nat) (l:List Flt),N=80-i∧i≤z.length∧i≤80∧l.length=i∧(∀f∈l,StOk c f)∧F=[(1,sl zr (z.map FX.enc)),(4,.ptr 0 0 0),(6,.ptr 1 0 0),(7,grV 2 (l.map Flt.enc)),(8,.int .i64 (i:Nat))]∧H=[some (.row 4 [[.nilslice,.nilslice,.nilslice,.nilslice]]),some (.row 4 [[sl c.nc (c.nodes.map Nd.enc),sl c.mc (c.names.map a13),.nilslice,sl c.oc (c.outs.map a0a)]])]++grH 5 (l.map Flt.enc)) (80-0) ?_ ?_
 ·refine⟨_,_,?_,0,[],rfl,f4m _,by omega,rfl,by simp,rfl,rfl⟩
  (simp+decide only[go_sem,a02,a00,f4h,a0g,a0h]<;>rfl)<;>rfl
 ·rintro N F H ⟨i,l,rfl,hi,u3,hl,aG,rfl,rfl⟩
  have bh:∃(lr:Rep) (l':List Flt),l'.length≤80∧(∀f∈l',StOk c f)∧((AV.tuple [.agg [sl c.nc (c.nodes.map Nd.enc),sl c.mc (c.names.map a13),.nilslice,sl c.oc (c.outs.map a0a)],sl (match l with|[]=>none|_=>some none) (l.map Flt.enc)],[]):AV×a03)=(.tuple [.agg [sl c.nc (c.nodes.map Nd.enc),sl c.mc (c.names.map a13),.nilslice,sl c.oc (c.outs.map a0a)],sl lr (l'.map Flt.enc)],[]):=⟨_,l,by omega,aG,rfl⟩
  by_cases ah:i<z.length
  ·have c1:(i:Int)<z.length:=by omega
   by_cases tS:i<80
   ·have c2:(i:Int)<80:=by omega
    obtain⟨f,hf⟩:∃f,z[i]?=some f:=⟨_,z9e ah⟩
    obtain⟨g,hg,rC⟩:=sU f (hz f (c11 hf));simp only[FX.enc,Flt.enc,Int.natCast_zero]at rC;have hw:=wI1 (n:=i) (by omega);have aE:l.length+1≤1000000000:=by omega
    have mo:∀f∈l++[g],StOk c f:=λf hf=>by rcases f8n.1 hf with h|h;exact aG f h;rw[f6f.1 h];exact hg
    have bR:(l++[g]).length=i+1:=by simp[hl]
    cases l with
    |nil=>
     (repeat first|simp only[ww]|(apply xa;simp+decide only[go_sem,c1,c2,ah,hf,rC,hw,f4h,a0g,a0h];rfl;kernel_rfl))
     refine a1j (80-(i+1)) (by omega) ⟨_,_,?_,i+1,[g],rfl,ah,tS,bR,mo,rfl,rfl⟩
     (simp+decide only[go_sem,a02,a00,c10,f4h,a05,a06,Flt.enc,f4o]<;>rfl)<;>rfl
    |cons a r=>
     simp only[e12]at aE
     (repeat first|simp only[ww]|(apply xa;simp+decide only[go_sem,c1,c2,ah,hf,rC,hw,c10,a05,a06,aE,f4j];rfl;kernel_rfl))
     refine a1j (80-(i+1)) (by omega) ⟨_,_,?_,i+1,a::r++[g],rfl,ah,tS,bR,mo,rfl,rfl⟩
     (simp+decide only[go_sem,a02,a00,f6a,c10,f6c,f4h,a05,a06,fS,d6,Flt.enc,f4j,f5z,e12,f4o]<;>rfl)<;>rfl
   ·have c2:¬(i:Int)<80:=by omega
    cases l with
    |nil=>
     (repeat first|simp only[ww]|(apply xa;simp+decide only[go_sem,c1,c2,f4h,a0g,a0h];rfl;kernel_rfl))
     refine a5l (vs:=[.agg [sl c.nc (c.nodes.map Nd.enc),sl c.mc (c.names.map a13),.nilslice,sl c.oc (c.outs.map a0a)],.nilslice]) (r:=(.tuple [.agg [sl c.nc (c.nodes.map Nd.enc),sl c.mc (c.names.map a13),.nilslice,sl c.oc (c.outs.map a0a)],.nilslice],[])) (by simp+decide only[go_sem]<;>rfl) ?_ bh;show a1f false 0 _ _=_;simp+decide only[go_sem,a5q]<;>rfl
    |cons a r=>
     have kY:=λ(m:Nat) (d:AV→Option AV)=>kn (m:=m) (d:=d) (a::r);have gQ:((a::r).map Flt.enc).length=r.length+1:=by simp
     have kW:((a::r).map Flt.enc).take (r.length+1)=(a::r).map Flt.enc:=f4l (by simp);have o7:grV 2 ((a::r).map Flt.enc) = .slice 2 0 (r.length+1) none:=by simp only[c10,a05,f4j]
     have ph:grH 5 ((a::r).map Flt.enc)=[some (.row 5 ((a::r).map Flt.enc))]:=by simp only[c10,a06]
     have hE:sl (some none) ((a::r).map Flt.enc) = .islice ((a::r).map Flt.enc) none:=rfl;simp only[hE]at bh;rw[o7,ph];generalize(a::r).map Flt.enc=AR at kY gQ kW bh
     (repeat first|simp only[ww]|(apply xa;simp+decide only[go_sem,c1,c2];rfl;kernel_rfl))
     refine a5l (vs:=[.agg [sl c.nc (c.nodes.map Nd.enc),sl c.mc (c.names.map a13),.nilslice,sl c.oc (c.outs.map a0a)],.slice 2 0 (r.length+1) none]) (r:=(.tuple [.agg [sl c.nc (c.nodes.map Nd.enc),sl c.mc (c.names.map a13),.nilslice,sl c.oc (c.outs.map a0a)],.islice AR none],[])) (by simp+decide only[go_sem]<;>rfl) ?_ bh;show a1f false 0 _ _=_;simp+decide only[go_sem,a5q,kY,gQ,kW]<;>rfl
  ·have c1:¬(i:Int)<z.length:=by omega
   cases l with
   |nil=>
    (repeat first|simp only[ww]|(apply xa;simp+decide only[go_sem,c1,f4h,a0g,a0h];rfl;kernel_rfl))
    refine a5l (vs:=[.agg [sl c.nc (c.nodes.map Nd.enc),sl c.mc (c.names.map a13),.nilslice,sl c.oc (c.outs.map a0a)],.nilslice]) (r:=(.tuple [.agg [sl c.nc (c.nodes.map Nd.enc),sl c.mc (c.names.map a13),.nilslice,sl c.oc (c.outs.map a0a)],.nilslice],[])) (by simp+decide only[go_sem]<;>rfl) ?_ bh;show a1f false 0 _ _=_;simp+decide only[go_sem,a5q]<;>rfl
   |cons a r=>
    have kY:=λ(m:Nat) (d:AV→Option AV)=>kn (m:=m) (d:=d) (a::r);have gQ:((a::r).map Flt.enc).length=r.length+1:=by simp
    have kW:((a::r).map Flt.enc).take (r.length+1)=(a::r).map Flt.enc:=f4l (by simp);have o7:grV 2 ((a::r).map Flt.enc) = .slice 2 0 (r.length+1) none:=by simp only[c10,a05,f4j]
    have ph:grH 5 ((a::r).map Flt.enc)=[some (.row 5 ((a::r).map Flt.enc))]:=by simp only[c10,a06]
    have hE:sl (some none) ((a::r).map Flt.enc) = .islice ((a::r).map Flt.enc) none:=rfl;simp only[hE]at bh;rw[o7,ph];generalize(a::r).map Flt.enc=AR at kY gQ kW bh
    (repeat first|simp only[ww]|(apply xa;simp+decide only[go_sem,c1];rfl;kernel_rfl))
    refine a5l (vs:=[.agg [sl c.nc (c.nodes.map Nd.enc),sl c.mc (c.names.map a13),.nilslice,sl c.oc (c.outs.map a0a)],.slice 2 0 (r.length+1) none]) (r:=(.tuple [.agg [sl c.nc (c.nodes.map Nd.enc),sl c.mc (c.names.map a13),.nilslice,sl c.oc (c.outs.map a0a)],.islice AR none],[])) (by simp+decide only[go_sem]<;>rfl) ?_ bh;show a1f false 0 _ _=_;simp+decide only[go_sem,a5q,kY,gQ,kW]<;>rfl
theorem c6a(x:CX)(hx:x.ok)(zr:Rep)(z:List FX)(hz:∀f∈z,f.ok)(ge:z.length<9223372036854775808):∃(lr:Rep) (l:List Flt),l.length≤80∧(∀f∈l,StOk (a5r x) f)∧
 ∀(d:Bool) (H:a03),a0b L.env d (sem L.env Mf) (.func (.func 15) [] []) [.agg x.enc,sl zr (z.map FX.enc)] H=some (.tuple [.agg (a5r x).enc,sl lr (l.map Flt.enc)],H,[]):=by
 obtain⟨r,⟨lr,l,h1,h2,rfl⟩,h⟩:=d4p x hx zr z hz ge;exact⟨lr,l,h1,h2,λd H=>a04 (by kernel_rfl) (by kernel_rfl) rfl (by simp only[e14,f4g,a07,a11,go_sem]) h (by simp only[a4a,a07,a11,b4u,a2w,a1u,f4g])⟩
theorem d3m(S:List Int)(c:Option Nat)(hl:S.length<1000000)(aF:S≠[]):sem L.env Mf 16 [dsV S,.slice 0 0 S.length c] [some (.row 1 (S.map a79))]=some (.bool true,[some (.row 1 (S.map a79))]):=by
 have hd:dsV S = .islice (S.map a79) (some S.length):=by cases S with|nil=>exact absurd rfl aF|cons a r=>rfl
 rw[hd];have hf:=b6v S;have h1:=a0f hf;have h2:=λπ=>a0c π hf;have c0:¬¬(S.length:Int)=S.length:=by simp
 (refine sv Tryz.f16 ?_;simp only[Tryz.f16,gS])
 (repeat first|simp only[ww]|(apply xa;simp+decide only[go_sem,c0,f4j];rfl;kernel_rfl))
 refine a0q (σ:=Nat) kp16_0 (λi=>[(0,.islice (S.map a79) (some S.length)),(1,.slice 0 0 S.length c),(5,.int .i64 i)]) (λi=>[some (.row 1 (S.map a79))]) (λi=>S.length-i) (λi=>i≤S.length) 0 ?_ (f4m _) ?_
 ·(simp+decide only[go_sem,a02,a00,h1,h2]<;>rfl)<;>rfl
 ·intro i hi;by_cases ah:i<S.length
  ·obtain⟨v,hv⟩:∃v,S[i]?=some v:=⟨_,z9e ah⟩
   have hg:(S.map a79)[i]?=some [.int .i64 v]:=by rw[f4q,hv];rfl
   have cH:(S.map a79).length=S.length:=f4j ..;have c1:(i:Int)<S.length:=by omega
   have hw:=wI1 (n:=i) (by omega);generalize S.map a79=T at hg cH h1 h2
   (repeat first|simp only[ww]|(apply xa;simp+decide only[go_sem,c1,ah,hg,cH,hw];rfl;kernel_rfl))
   refine a21 (i+1) ?_ (by omega) (by omega)
   (simp+decide only[go_sem,a02,a00,h1,h2]<;>rfl)<;>rfl
  ·obtain rfl:i=S.length:=by omega
   have c1:¬(S.length:Int)<S.length:=by omega
   have cH:(S.map a79).length=S.length:=f4j ..;generalize S.map a79=T at cH h1 h2
   (repeat first|simp only[ww]|(apply xa;simp+decide only[go_sem,c1,cH];rfl;kernel_rfl))
   (apply fqb;simp+decide only[go_sem,h2]<;>rfl)
theorem c9p:sem L.env Mf 16 [.nilslice,.nilslice] []=some (.bool true,[]):=by
 (refine sv Tryz.f16 ?_;simp only[Tryz.f16,gS])
 (repeat first|simp only[ww]|(apply xa;simp+decide only[go_sem];rfl;kernel_rfl))
 refine a4l kp16_0 (λN F H=>F=[(0,.nilslice),(1,.nilslice),(5,.int .i64 0)]∧H=[]) 0 ?_ ?_
 ·exact⟨_,_,by(simp+decide only[go_sem,a02,a00]<;>rfl)<;>rfl,rfl,rfl⟩
 ·rintro N F H ⟨rfl,rfl⟩
  (repeat first|simp only[ww]|(apply xa;simp+decide only[go_sem];rfl;kernel_rfl))
  (apply fqb;simp+decide only[go_sem]<;>rfl)
theorem c5x{d:Bool}{H:a03}{b:Nat}{S:List Int}{c:Option Nat}(hl:S.length<1000000)(aF:S≠[])(hb:a01 H b=some (.row 1 (S.map a79))) :
 a0b L.env d (sem L.env Mf) (.func (.func 16) [] []) [dsV S,.slice b 0 S.length c] H=some (.bool true,H,[b]):=by
 have hr:=b1r S;have qG:∀π,ren π (dsV S)=dsV S:=λπ=>a14 π _ hr;have h:=a60 (E:=L.env) (ag:=d) (call:=sem L.env Mf) (g:=16) (fs:=[]) (cs:=[]) (ar:=[dsV S,.slice b 0 S.length c]) (H:=H) (b:=b) (by kernel_rfl) (by kernel_rfl) rfl hb (a0r (b6v S)) (FlatO.row (b6v S)) (by simp only[e14,f4g,a07,hr,a87];rfl) (au:=[dsV S,.slice 0 0 S.length c]) (by simp only[e14,f4g,c10,f4h,a20,qG]) (d3m S c hl aF) (FlatO.row (b6v S)) rfl;rw[a8k hb]at h;exact h
theorem c3i{d:Bool}(H:a03):a0b L.env d (sem L.env Mf) (.func (.func 16) [] []) [.nilslice,.nilslice] H=some (.bool true,H,[]):=a04 (by kernel_rfl) (by kernel_rfl) rfl rfl c9p rfl
set_option maxHeartbeats 200000000
theorem c1n{α:Type}(f g:α→Nat):∀(l:List α),(∀x∈l,f x≤1∧g x≤1)→b2r (l.map f) (l.map g)=l.any λx=>decide (g x≠f x)
 | [],_=>rfl
 |x::l,h=>by
  obtain⟨h1,h2⟩:=h x (List.mem_cons_self ..);simp only[c10,b2r,List.any_cons];rw[c1n f g l (λy hy=>h y (g12 _ hy))]
  congr 1
  unfold con;rw[f8b h1,f8b h2,f9p,f9p,decide_eq_decide];exact⟨λh e=>h e.symm,λh e=>h e.symm⟩
theorem f7a(c:Cir)(ord:List Nat)(p:Pat)(fs:List Flt)(f:Flt)(hf:f.model=0):b1j c ord (a9b c ord f p) p=(b3n c ord p fs).B f:=by
 have h:a9b c ord f p=hkF f f.value:=by unfold a9b a18;rw[f6e hf];rfl
 rw[h];rfl
theorem d77(x:CX):(a5r x).outs≠[]:=by show CX.outN _≠[];unfold CX.outN;simp
theorem e97(x:CX):kinds (a5r x).nodes 0≠[]:=by
 have hk:0<(b4m (c0s x)).k:=by unfold CX.k;omega
 have h0:a0e (a5r x).nodes 0=0:=by
  show a0e (b4m (c0s x)).nodes 0=0;unfold CX.nodes a0e;obtain⟨k,dE⟩:∃k,(b4m (c0s x)).k=k+1:=⟨_,(Nat.succ_pred_eq_of_pos hk).symm⟩
  rw[dE];simp only[g0l,f6a,f6n];rfl
 have hp:0<(a5r x).nodes.length:=(CX.wf _).pos;intro e;have:(0:Nat)∈kinds (a5r x).nodes 0:=by unfold kinds a40;rw[f9s];exact⟨g0y.2 hp,by simp[h0]⟩
 rw[e]at this;cases this
theorem e54(c:Cir)(hc:c.wf)(bV:∀n∈c.nodes,n.kind≠12∧n.kind≠13)(p:Pat)(hp:Bits c p)(ord:List Nat)(aR:OrdOf c ord)(l:List Flt)(aG:∀f∈l,StOk c f)(aQ:l.length≤1000){i:Nat}{f:Flt}(hi:l[i]?=some f) :
 (a1x c ord).det f p=((b3n c ord p l).outT c.outs i||(b3n c ord p l).staT (kinds c.nodes 14) i):=by
 have M:=d2t hc bV aR hp aG aQ;have fW:=aG f (c11 hi);have cM:i<l.length:=(c13.1 hi).1;have i8:(b3n c ord p l).ft i=f:=by show l.getD i _=f;rw[f8a,hi];rfl
 rw[←g09 c hc p hp.ok f fW.ok ord aR,f7a c ord p l f fW.m0,←e56 c ord p l];have hk:a9b c ord f p=hkF f f.value:=by unfold a9b a18;rw[f6e fW.m0];rfl
 rw[hk];have bp:(b3n c ord p l).nodes=c.nodes:=rfl;have gJ:(b3n c ord p l).fs=l:=rfl;generalize b3n c ord p l=D at M i8 bp gJ;have oJ:i<D.fs.length:=by rw[gJ];exact cM
 congr 1
 ·unfold a1q Ded.outT;rw[c1n _ _ _ (λn hn=>⟨M.ok.G1 (by rw[bp];exact hc.outs n hn),by have:=M.ok.B1 oJ (n:=n) (by rw[bp];exact hc.outs n hn);rw[i8]at this;exact this⟩)]
  congr 1
  funext n
  unfold Ded.dif;rw[i8]
 ·have e1:a3y c.nodes D.G=(kinds c.nodes 14).map λn=>D.inG n 0:=by
   unfold a3y;refine f8e λn hn=>?_;obtain⟨bH,eG⟩:=a8b.1 hn;have aG:=M.ok.lo n (by rw[bp];exact bH);rw[bp,eG]at aG;have aG:0<(a15 c.nodes n).length:=aG;have hm:(a15 c.nodes n).getD 0 0<D.nodes.length:=by rw[f8a,z9e aG];exact M.ok.inn n (by rw[bp];exact bH) _ (by rw[bp];exact List.getElem_mem aG)
   have h1:=M.ok.G1 hm;show a4t _=D.G.getD ((a15 D.nodes n).getD 0 0) 0;rw[bp];unfold a4t;omega
  have e2:a8s c.nodes (hkF f f.value) (D.B f) (kinds c.nodes 14)=(kinds c.nodes 14).map λn=>if D.chg n 0 i then a9a (D.inG n 0)else D.inG n 0:=by
   unfold a8s;refine f8e λn hn=>?_;obtain⟨bH,eG⟩:=a8b.1 hn;have hU:n<D.nodes.length:=by rw[bp];exact bH
   have aG:=M.ok.lo n hU;rw[bp,eG]at aG;have aG:0<(a15 D.nodes n).length:=by rw[bp];exact aG
   have hr:=M.ok.reads oJ hU;rw[i8,bp]at hr;have hm:(a15 D.nodes n).getD 0 0<D.nodes.length:=by rw[f8a,z9e aG];exact M.ok.inn n hU _ (List.getElem_mem aG)
   have h1:D.inG n 0≤1:=M.ok.G1 hm;have e:(a0n nAlg c.nodes (hkF f f.value) (D.B f) n).getD 0 0=if D.chg n 0 i then a9a (D.inG n 0)else D.inG n 0:=by rw[hr,f8a,f4q,g07 (by rw[bp]at aG;exact aG)];rfl
   rw[e];have h2:(if D.chg n 0 i then a9a (D.inG n 0)else D.inG n 0)≤1:=by split;exact b36 h1;exact h1
   rw[f4n (by omega)]
  have dS:∀n∈kinds c.nodes 14,D.inG n 0≤1:=by
   intro n hn;obtain⟨bH,eG⟩:=a8b.1 hn;have hU:n<D.nodes.length:=by rw[bp];exact bH
   have aG:=M.ok.lo n hU;rw[bp,eG]at aG;have aG:0<(a15 D.nodes n).length:=by rw[bp];exact aG
   have hm:(a15 D.nodes n).getD 0 0<D.nodes.length:=by rw[f8a,z9e aG];exact M.ok.inn n hU _ (List.getElem_mem aG)
   exact M.ok.G1 hm
  rw[e1,e2,c1n _ _ _ (λn hn=>?_)]
  ·unfold Ded.staT;rw[f9r,g2f,g2f];have key:∀n∈kinds c.nodes 14,(decide ((if D.chg n 0 i then a9a (D.inG n 0)else D.inG n 0)≠D.inG n 0)=true↔D.chg n 0 i=true):=by
    intro n hn;have h1:=dS n hn;cases D.chg n 0 i with
    |true=>simp only[f9q,f4p,iff_true];unfold a9a;rw[f6e h1];omega
    |false=>simp
   exact⟨λ⟨n,hn,h⟩=>⟨n,hn,(key n hn).1 h⟩,λ⟨n,hn,h⟩=>⟨n,hn,(key n hn).2 h⟩⟩
  ·have h1:=dS n hn;refine⟨h1,?_⟩;split
   ·exact b36 h1
   ·exact h1
theorem c2w{d:Bool}(H:a03)(c:Cir)(h:c.wf)(rl:Rep)(l:List Flt)(p:Pat)(aQ:l.length≤1000)(hf:∀f∈l,FltOk c.nodes f)(hp:PatOk c.nodes p)(ord:List Nat)(du:ord.Perm (List.range c.nodes.length))
 (az:∀(d:Bool) (H:a03),a0b L.env d (sem L.env Mf) (.func (.func 41) [] []) [.agg c.enc] H=some (.agg (b2q c ord net0V pin0V),H,[])) :
 a0b L.env d (sem L.env Mf) (.func (.func 18) [] []) [.agg c.enc,sl rl (l.map Flt.enc),.agg p.enc] H=some (.tuple [.islice (l.map λf=>[.bool ((a1x c ord).det f p)]) (some l.length),.int .i64 0],H,[]):=
 a04 (by kernel_rfl) (by kernel_rfl) rfl (by simp only[e14,f4g,a07,a11,Cir.enc,Pat.enc,go_sem]) (c99 c h rl l p aQ hf hp ord du az) rfl
def wT(q:Nat→Bool)(k:Nat):List (List AV):=((List.range k).filter q).map a0a
theorem e7u{q:Nat→Bool}{k:Nat}(h:q k=true):wT q (k+1)=wT q k++[a0a k]:=by unfold wT;rw[f9k,List.filter_append,f6c];simp[h]
theorem f3g{q:Nat→Bool}{k:Nat}(h:q k=false):wT q (k+1)=wT q k:=by unfold wT;rw[f9k,List.filter_append,f6c];simp[h]
theorem e7v(q:Nat→Bool)(k:Nat):(wT q k).length≤k:=by unfold wT;rw[f4j];have:=f9x q (List.range k);rw[f8g]at this;exact this
theorem e25(q:Nat→Bool)(k:Nat):FlatR (wT q k):=FlatR.map λ_=>rfl
theorem e7w(q:Nat→Bool)(k:Nat):wT q k=(a1p k q).map a79:=by unfold wT a1p;rw[g1o];rfl
theorem lawDet_ok(mn:∀H,a0b L.env false (sem L.env Mf) (.func (.func 14) [] []) [] H=some (.bool true,H,[]))(x:CX)(hx:x.ok)(zr:Rep)(z:List FX)(hz:∀f∈z,f.ok)(ge:z.length<9223372036854775808)(w:BitVec 64) :
 sem L.env Mf 6 [.agg x.enc,sl zr (z.map FX.enc),u64 w] []=some (.bool true,[]):=by
 obtain⟨lr,l,uW,aG,az⟩:=c6a x hx zr z hz ge;have hc:(a5r x).wf:=CX.wf _;have bV:=c2v x;have hO:=d77 x;have na:=e97 x;generalize a5r x=c at az aG hc bV hO na;obtain⟨p,hp,th⟩:=d42 c hc na w;obtain⟨ord,aR⟩:=e8l c hc;have l6:=d6p c hc ord aR;have M:=d2t hc bV aR hp aG (by omega);have C:=d9m hc bV hO aR hp aG (by omega);have bD:=λ(d:Bool) (H:a03)=>d94 (rl:=lr) (d:=d) M C H hc.outs (by have:=hc.outl;omega);have qK:=λ(d:Bool) (H:a03)=>c2w (d:=d) H c hc lr l p (by omega) (λf hf=>(aG f hf).ok) hp.ok ord aR.perm l6;have tl:=λ(d:Bool) (H:a03) (f:Flt) (hf:f∈l)=>c40 (d:=d) H c hc hO p hp.ok f (aG f hf).ok ord aR;have pM:=λ(i:Nat) (f:Flt) (hi:l[i]?=some f)=>e54 c hc bV p hp ord aR l aG (by omega) hi;have gJ:(b3n c ord p l).fs=l:=rfl;rw[gJ]at bD;obtain⟨q,hq⟩:∃q:Nat→Bool,q=λi=>(b3n c ord p l).outT c.outs i||(b3n c ord p l).staT (kinds c.nodes 14) i:=⟨_,rfl⟩
 rw[←hq]at bD;have pM:∀(i:Nat) (f:Flt),l[i]?=some f→(a1x c ord).det f p=q i:=λi f hi=>by rw[pM i f hi,hq]
 have eS:∀(p:Pat),p.enc=[sl p.ic (p.ins.map u8R),sl p.sc (p.sts.map u8R)]:=λ_=>rfl;simp only[Cir.enc,FX.enc,CX.enc,eS]at az th qK tl bD⊢;have gQ:(l.map λf=>[AV.bool ((a1x c ord).det f p)]).length=l.length:=by simp
 have tR:∀i f,l[i]?=some f→(l.map λf=>[AV.bool ((a1x c ord).det f p)])[i]?=some [AV.bool (q i)]:=λi f h=>by rw[f4q,h,←pM i f h];rfl
 generalize(l.map λf=>[AV.bool ((a1x c ord).det f p)])=A at qK gQ tR;have fX:refs (dsV (a1p l.length q))=[]:=b1r _;have mF:AV.storable (dsV (a1p l.length q))=true:=d1j _;obtain⟨V,hV⟩:∃V,dsV (a1p l.length q)=V:=⟨_,rfl⟩
 rw[hV]at bD fX mF;have oh:∀π,ren π V=V:=λπ=>a14 π _ fX
 (refine sv Tryz.f6 ?_;simp only[Tryz.f6,gS])
 (repeat first|simp only[ww]|(apply xa;simp+decide only[go_sem,az,th,bD,qK,gQ,f4j];rfl;kernel_rfl))
 have tO:∀π:Nat→Option Nat,a0t π (.row 4 [[sl c.nc (c.nodes.map Nd.enc),sl c.mc (c.names.map a13),.nilslice,sl c.oc (c.outs.map a0a)]]) = .row 4 [[sl c.nc (c.nodes.map Nd.enc),sl c.mc (c.names.map a13),.nilslice,sl c.oc (c.outs.map a0a)]]:=λπ=>by simp+decide only[go_sem]
 have wA:∀π:Nat→Option Nat,a0t π (.row 2 [[sl p.ic (p.ins.map u8R),sl p.sc (p.sts.map u8R)]]) = .row 2 [[sl p.ic (p.ins.map u8R),sl p.sc (p.sts.map u8R)]]:=λπ=>by simp+decide only[go_sem]
 refine a0q (σ:=Nat) kp6_0 (λk=>[(7,.ptr 0 0 0),(8,sl lr (l.map Flt.enc)),(9,.ptr 1 0 0),(10,V),(12,.islice A (some l.length)),(14,grV 2 (wT q k)),(15,.int .i64 k)])
  (λk=>some (.row 4 [[sl c.nc (c.nodes.map Nd.enc),sl c.mc (c.names.map a13),.nilslice,sl c.oc (c.outs.map a0a)]])::some (.row 2 [[sl p.ic (p.ins.map u8R),sl p.sc (p.sts.map u8R)]])::grH 1 (wT q k)) (λk=>l.length-k) (λk=>k≤l.length) 0 ?_ (f4m _) ?_
 ·have e:wT q 0=[]:=rfl
  (simp+decide only[go_sem,a02,a00,e,a0g,a0h,fX,oh]<;>rfl)
 ·intro k hk;by_cases fT:k<l.length
  ·obtain⟨f,eC⟩:∃f,l[k]?=some f:=⟨_,z9e fT⟩
   have d1:(k:Int)<l.length:=by omega
   have lg:=wI1 (n:=k) (by omega);have eS:Flt.enc f=[.int .u8 f.model,.int .i64 f.node,.int .i64 f.pin,.int .u8 f.value,.int .i64 f.other]:=rfl;have mG:=λ(d:Bool) (H:a03)=>tl d H f (c11 eC);rw[pM k f eC,eS]at mG;have nw:=tR k f eC;have kX:k<A.length:=by omega
   have ld:=e7v q k;have nP:=e25 q k;have ez:=a0f nP;have eW:=λπ=>a0c π nP;cases ln:q k with
   |false=>
    rw[ln]at mG nw;have hs:=f3g ln;cases bM:wT q k with
    |nil=>
     (repeat first|simp only[ww]|(apply xa;simp+decide only[go_sem,d1,fT,eC,eS,mG,nw,kX,gQ,lg,a0g,a0h,f4j];rfl;kernel_rfl))
     refine a21 (k+1) ?_ (by omega) (by omega);rw[hs,bM]
     (simp+decide only[go_sem,a02,a00,a0g,a0h,fX,oh]<;>rfl)
    |cons a r=>
     rw[bM]at ez eW
     (repeat first|simp only[ww]|(apply xa;simp+decide only[go_sem,d1,fT,eC,eS,mG,nw,kX,gQ,lg,a05,a06,f4j];rfl;kernel_rfl))
     refine a21 (k+1) ?_ (by omega) (by omega);rw[hs,bM]
     (simp+decide only[go_sem,a02,a00,a05,a06,fX,oh,ez,eW]<;>rfl)
   |true=>
    rw[ln]at mG nw;have hs:=e7u ln;cases bM:wT q k with
    |nil=>
     (repeat first|simp only[ww]|(apply xa;simp+decide only[go_sem,d1,fT,eC,eS,mG,nw,kX,gQ,lg,a0g,a0h,f4j];rfl;kernel_rfl))
     refine a21 (k+1) ?_ (by omega) (by omega);rw[hs,bM]
     (simp+decide only[go_sem,a02,a00,a0g,a0h,e14,a05,a06,f4o,fX,oh]<;>rfl)<;>rfl
    |cons a r=>
     rw[bM]at ez eW ld;have aE:r.length+1+1≤1000000000:=by simp only[e12]at ld;omega
     rw[bM]at nP;have pz:a0l a=[]:=nP a (List.mem_cons_self ..);have pt:FlatR r:=λx hx=>nP x (g12 _ hx);have fS:=a0f pt;have iW:=λπ=>a0c π pt;have uE:∀π,a.map (ren π)=a:=λπ=>by have h:=a0c π (FlatR.cons pz FlatR.nil);simpa using h
     (repeat first|simp only[ww]|(apply xa;simp+decide only[go_sem,d1,fT,eC,eS,mG,nw,kX,gQ,lg,a05,a06,aE,e12,f4j];rfl;kernel_rfl))
     refine a21 (k+1) ?_ (by omega) (by omega);rw[hs,bM]
     (simp+decide only[go_sem,a02,a00,f6a,a05,a06,fX,oh,pz,fS,iW,uE,f4g,e12,f5z]<;>rfl)<;>rfl
  ·obtain rfl:k=l.length:=by omega
   have d1:¬(l.length:Int)<l.length:=by omega
   have nQ:=e7w q l.length;have tF:(a1p l.length q).length<1000000:=by have:=d8k l.length q;omega
   rw[nQ];subst hV;cases hS:a1p l.length q with
   |nil=>
    have dS:=λ(d:Bool) (H:a03)=>c3i (d:=d) H;have tm:dsV [] = .nilslice:=rfl;rw[tm]
    (repeat first|simp only[ww]|(apply xa;simp+decide only[go_sem,d1,f4h,a0g,a0h,dS,mn,f4j];rfl;kernel_rfl))
    (apply fqb;simp+decide only[go_sem]<;>rfl)
   |cons a0 r0=>
    rw[hS]at tF;have dS:=λ(d:Bool) (X Y:Option AObj)=>c5x (d:=d) (H:=[X,Y,some (.row 1 ((a0::r0).map a79))]) (b:=2) (S:=a0::r0) (c:=none) tF (by simp) rfl;have aF:(a0::r0).map a79≠[]:=by simp
    rw[b46 2 aF,b47 1 aF,f4j];generalize dsV (a0::r0)=DV at dS;generalize(a0::r0).map a79=T at dS;generalize(a0::r0).length=m0 at dS
    (repeat first|simp only[ww]|(apply xa;simp+decide only[go_sem,d1,dS,mn,f4j];rfl;kernel_rfl))
    (apply fqb;simp+decide only[go_sem]<;>rfl)
end Go.TInst
