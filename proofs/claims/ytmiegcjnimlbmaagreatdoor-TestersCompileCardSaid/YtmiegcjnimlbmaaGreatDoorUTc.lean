/- Part of a proof. No condition. -/
import Derived.Test.YtmiegcjnimlbmaaGreatDoorUTa
import Derived.Test.YtmiegcjnimlbmaaGreatDoorAxD
import Derived.Test.YtmiegcjnimlbmaaGreatDoorUNe
import Derived.Test.YtmiegcjnimlbmaaGreatDoorUTb
set_option linter.unusedSimpArgs false
set_option linter.unusedVariables false
namespace Go.UInst
set_option maxHeartbeats 200000000
open Go.Proofs Go.Ax Go.Pc
set_option maxRecDepth 100000
theorem b6t(c:Cir)(hc:c.wf){k m:Nat}(ht:Tio c k m):sem L.env Mf 11 [.agg c.enc] []=some (.tuple [.slice 1 0 (k+m) (some (k+m)),.int .i64 0],[some (stO (nms k m)),some (.row 2 ((sgs k m).map Sgn.row))]):=by
 obtain⟨t1,t2,t3,t4,t5,t6⟩:=ht;have hn:=hc.len;have hck:=λ(d:Bool) (H:a03)=>b76 (d:=d) H c hc;have hin:=λ(d:Bool) (H:a03)=>a4i (d:=d) H c (by omega);have h15:kinds c.nodes 15=[]:=by unfold kinds a2v;rw[List.filter_eq_nil_iff];intro i hi;have hil:=List.mem_range.1 hi;have:=hc.kind _ (List.getElem_mem hil);rw[a2g (z9e hil)];simp only[decide_eq_true_eq];omega
 have hof:=λ(d:Bool) (X:Option AObj)=>b8i (d:=d) (H:=[X,some (.row 1 [[.int .u8 15]])]) (b:=1) c (k:=15) rfl (by omega) rfl;rw[h15]at hof;have hkn:k≤c.nodes.length:=by have:=b3w c.nodes 0;rw[t1]at this;simpa using this
 have hnm:∀i,i<k→c.names[i]?=some (a1n i):=λi hi=>by rw[hc.names,List.getElem?_map,List.getElem?_range (by omega)];rfl
 have hnl:c.names.length=c.nodes.length:=by rw[hc.names];simp
 obtain⟨r0,e0⟩:=a8g (kinds c.nodes 0);rw[e0,t1]at hin;have hCf:∀π:Nat→Option Nat,a0j π (.row 4 [[sl c.nc (c.nodes.map Nd.enc),sl c.mc (c.names.map a39),.nilslice,sl c.oc (c.outs.map a11)]]) = .row 4 [[sl c.nc (c.nodes.map Nd.enc),sl c.mc (c.names.map a39),.nilslice,sl c.oc (c.outs.map a11)]]:=λπ=>by simp+decide only[go_sem]
 have hCr:a15 (some (.row 4 [[sl c.nc (c.nodes.map Nd.enc),sl c.mc (c.names.map a39),.nilslice,sl c.oc (c.outs.map a11)]]))=[]:=by simp+decide only[go_sem]
 have hie:c5o [] = .nilslice:=rfl;rw[hie]at hof;simp only[Cir.enc]at hck hin hof⊢;have c1:¬((256:Int)<k+m):=by omega
 have hw:=w64 (n:=(k:Int)+m) (by omega) (by omega)
 (refine sv Tryz.f11 ?_;simp only[Tryz.f11,gS])
 (repeat first|simp only[ww]|(apply xa;simp+decide only[go_sem,hck,hof,hin,t4,c1,hw,List.length_map,List.length_range];rfl;kernel_rfl))
 refine a0n (σ:=Nat) kp11_0 (λi=>[(1,.ptr 0 0 0),(6,.map 1),(7,grV 2 ((sgs i 0).map Sgn.row)),(38,sl r0 ((List.range k).map a11)),(39,.int .i64 k),(40,.int .i64 i)])
  (λi=>some (.row 4 [[sl c.nc (c.nodes.map Nd.enc),sl c.mc (c.names.map a39),.nilslice,sl c.oc (c.outs.map a11)]])::some (stO (nms i 0))::grH 2 ((sgs i 0).map Sgn.row)) (λi=>k-i) (λi=>i≤k) 0 ?_ (Nat.zero_le _) ?_
 ·have e1:sgs 0 0=[]:=rfl;have e2:nms 0 0=[]:=rfl;have e3:b0f L.env 122=stO []:=by kernel_rfl
  (simp+decide only[go_sem,a02,a00,e1,e2,List.map_nil,a0x,a0y,a73,b00,e3]<;>rfl)<;>rfl
 ·intro i hi;by_cases hlt:i<k
  ·have d1:(i:Int)<k:=by omega
   have hwi:=wI1 (n:=i) (by omega);have hx:=hnm i hlt;have hxl:i<c.names.length:=by omega
   have hri:(List.range k)[i]?=some i:=List.getElem?_range hlt;have hup:=λ(X:Option AObj) (R:a03)=>c7a (h:=a01 (X::some (stO (nms i 0))::R)) (b:=1) (l:=nms i 0) (s:=a1n i) rfl (c50 (by omega));rw[←d3f]at hup;have hl0:=a3b i 0;cases i with
   |zero=>
    have e1:sgs 0 0=[]:=rfl;rw[e1]
    (repeat first|simp only[ww]|(apply xa;simp+decide only[go_sem,d1,hlt,hri,hx,hxl,hwi,hup,List.map_nil,a0x,a0y,List.length_map,List.length_range];rfl;kernel_rfl))
    refine a1p 1 ?_ (by omega) (by omega);have e2:(sgs 1 0).map Sgn.row=[[.str (a1n 0),.int .u8 0]]:=rfl;rw[e2]
    (simp+decide only[go_sem,a02,a00,a0b,a0c,a73,b00,List.length_nil]<;>rfl)<;>rfl
   |succ i=>
    have hs:=d2l (i+1);have hsr:(sgs (i+1+1) 0).map Sgn.row=(sgs (i+1) 0).map Sgn.row++[[.str (a1n (i+1)),.int .u8 0]]:=by rw[hs,List.map_append];rfl
    have hne:(sgs (i+1) 0).map Sgn.row≠[]:=by intro e;have:=congrArg List.length e;rw[List.length_map,hl0]at this;simp at this
    have hne2:(sgs (i+1+1) 0).map Sgn.row≠[]:=by rw[hsr];simp
    have hl1:((sgs (i+1) 0).map Sgn.row).length=i+1:=by rw[List.length_map,hl0]
    have hl2:((sgs (i+1+1) 0).map Sgn.row).length=i+1+1:=by rw[List.length_map,a3b]
    have hrm:i+1+1≤1000000000:=by omega
    rw[a4s 2 hne,a4t 2 hne,hl1];have hf:=a2k (sgs (i+1) 0);have h3:=a0d (a2k (sgs (i+1+1) 0));have h4:=λπ=>a08 π (a2k (sgs (i+1+1) 0));have hgv:=a4s 2 hne2;have hgh:=a4t 2 hne2;rw[hl2]at hgv;rw[hsr]at h3 h4 hgv hgh;generalize(sgs (i+1) 0).map Sgn.row=R0 at hl1 h3 h4 hsr hgv hgh
    (repeat first|simp only[ww]|(apply xa;simp+decide only[go_sem,d1,hlt,hri,hx,hxl,hwi,hup,hl1,hrm,List.length_map,List.length_range];rfl;kernel_rfl))
    refine a1p (i+1+1) ?_ (by omega) (by omega);rw[hsr,hgv,hgh]
    (simp+decide only[go_sem,a02,a00,a73,b00,h3,h4]<;>rfl)<;>rfl
  ·obtain rfl:i=k:=by omega
   have d1:¬(i:Int)<i:=by omega
   have hne:(sgs i 0).map Sgn.row≠[]:=by intro e;have:=congrArg List.length e;rw[List.length_map,a3b]at this;simp at this;omega
   have hl1:((sgs i 0).map Sgn.row).length=i:=by rw[List.length_map,a3b];omega
   rw[a4s 2 hne,a4t 2 hne,hl1];have h3:=a0d (a2k (sgs i 0));have h4:=λπ=>a08 π (a2k (sgs i 0))
   (repeat first|simp only[ww]|(apply xa;simp+decide only[go_sem,d1,t4,List.length_map];rfl;kernel_rfl))
   refine a0n (σ:=Nat) kp11_2 (λj=>[(6,.map 0),(7,.slice 1 0 (i+j) none),(62,.int .i64 m),(63,.int .i64 j)])
    (λj=>[some (stO (nms i j)),some (.row 2 ((sgs i j).map Sgn.row))]) (λj=>m-j) (λj=>j≤m) 0 ?_ (Nat.zero_le _) ?_
   ·(simp+decide only[go_sem,a02,a00,a73,b00,h3,h4,Nat.add_zero]<;>rfl)<;>rfl
   ·intro j hj;by_cases hjt:j<m
    ·have d2:(j:Int)<m:=by omega
     have hwj:=wI1 (n:=j) (by omega);have hit:=λ(d:Bool) (H:a03)=>c2b (d:=d) H j (by omega);have hlk:=λ(R:a03)=>c8n (h:=a01 (some (stO (nms i j))::R)) (b:=0) (l:=nms i j) (s:=oS j) rfl (c1x (by omega));have hup:=λ(R:a03)=>c7a (h:=a01 (some (stO (nms i j))::R)) (b:=0) (l:=nms i j) (s:=oS j) rfl (c1x (by omega));rw[←d7s]at hup;have hsr:(sgs i (j+1)).map Sgn.row=(sgs i j).map Sgn.row++[[.str (oS j),.int .u8 1]]:=by rw[d2k,List.map_append];rfl
     have hl2:((sgs i j).map Sgn.row).length=i+j:=by rw[List.length_map,a3b]
     have hrm:i+j+1≤1000000000:=by omega
     have h3:=a0d (a2k (sgs i j));have h4:=λπ=>a08 π (a2k (sgs i j));have h5:=a0d (a2k (sgs i (j+1)));have h6:=λπ=>a08 π (a2k (sgs i (j+1)));rw[hsr]at h5 h6;have ho:=d3d j
     (repeat first|simp only[ww]|(apply xa;simp+decide only[go_sem,d2,hit,ho];rfl;kernel_rfl))
     refine a0n (σ:=Nat) kp11_4 (λ_=>[(6,.map 0),(7,.slice 1 0 (i+j) none),(11,.str (oS j)),(62,.int .i64 m),(63,.int .i64 j)])
      (λ_=>[some (stO (nms i j)),some (.row 2 ((sgs i j).map Sgn.row))]) (λ_=>0) (λ_=>True) 0 ?_ trivial ?_
     ·(simp+decide only[go_sem,a02,a00,a73,b00,h3,h4]<;>rfl)<;>rfl
     ·intro _ _;generalize(sgs i j).map Sgn.row=R0 at hl2 h3 h4 h5 h6 hsr
      (repeat first|simp only[ww]|(apply xa;simp+decide only[go_sem,hlk,hup,hl2,hrm,hwj];rfl;kernel_rfl))
      refine a1p (j+1) ?_ (by omega) (by omega);rw[hsr]
      (simp+decide only[go_sem,a02,a00,a73,b00,h5,h6]<;>rfl)<;>rfl
    ·obtain rfl:j=m:=by omega
     have d2:¬(j:Int)<j:=by omega
     have hl2:((sgs i j).map Sgn.row).length=i+j:=by rw[List.length_map,a3b]
     have hlen:=a3b i j;have hcs:=λ(d:Bool) (X:Option AObj)=>c0i (d:=d) (H:=[X,some (.row 2 ((sgs i j).map Sgn.row))]) (b:=1) (sgs i j) (by omega) (b86 t3 t6) rfl;have hcl:=λ(d:Bool) (X:Option AObj)=>b9m (d:=d) (H:=[X,some (.row 2 ((sgs i j).map Sgn.row))]) (b:=1) (n:=i+j) (a2k (sgs i j)) rfl;rw[hlen]at hcs;have hfr:=λm d=>a0s (m:=m) (d:=d) (a2k (sgs i j));have htk:((sgs i j).map Sgn.row).take (i+j)=(sgs i j).map Sgn.row:=List.take_of_length_le (by omega);unfold b87 at hcs;generalize(sgs i j).map Sgn.row=R0 at hl2 hcs hcl hfr htk
     (repeat first|simp only[ww]|(apply xa;simp+decide only[go_sem,d2,hcs,hcl];rfl;kernel_rfl))
     (apply fqb;simp+decide only[go_sem]<;>rfl)
theorem a7h{d:Bool}(H:a03)(c:Cir)(hc:c.wf){k m:Nat}(ht:Tio c k m):a0m L.env d (sem L.env Mf) (.func (.func 11) [] []) [.agg c.enc] H=some (.tuple [.slice (H.length+1) 0 (k+m) (some (k+m)),.int .i64 0],H++[some (stO (nms k m)),some (.row 2 ((sgs k m).map Sgn.row))],[]):=by have hh:=b19 (E:=L.env) (d:=d) (H:=H) (fs:=[]) (cs:=[]) (ar:=[.agg c.enc]) (by kernel_rfl) (by kernel_rfl) rfl (by simp only[List.nil_append,List.append_nil];exact a55 c) (b6t c hc ht);rw[hh];have h1:=c90 (a0z [] H.length) (sgs k m);have h2:=b00 (a0z [] H.length) (nms k m);simp only[List.map_cons,List.map_nil,Option.map_some,h2];simp only[a0j,h1,ren,b71,c3f]<;>rfl
/- what fits refuses -/
theorem c2x(v:Nat)(hv:3<v):sem L.env Mf 94 [.int .u8 v] []=some (.bool true,[]):=by
 have c1:(3:Int)<v:=by omega
 (refine sv Tryz.f94 ?_;simp only[Tryz.f94,gS])
 (repeat first|simp only[ww]|(apply xa;simp+decide only[go_sem,c1];rfl;kernel_rfl))
 (apply fqb;simp+decide only[go_sem]<;>rfl)
theorem c2l(r:Rep)(l:List Nat)(p v:Nat)(hl:l.length<1000000)(hp:l[p]?=some v)(hv:3<v)(hc:∀i w,i<p→l[i]?=some w→w≤3) :
 sem L.env Mf 139 [sl r (l.map u8R),a4n] []=some (.int .i64 p,[]):=by
 have hpl:=(List.getElem?_eq_some_iff.1 hp).1
 suffices hs:∃z:AV×a03,z=(.int .i64 p,[])∧sem L.env Mf 139 [sl r (l.map u8R),a4n] []=some z by obtain⟨z,rfl,h3⟩:=hs;exact h3
 unfold a4n
 (refine svE Tryz.f139 ?_;simp only[Tryz.f139,gS])
 (repeat first|simp only[ww]|(apply xa;simp+decide only[go_sem];rfl;kernel_rfl))
 refine a0n (σ:=Nat) kp139_0 (λi=>[(0,sl r (l.map u8R)),(1,a4n),(7,.int .i64 l.length),(8,.int .i64 i)])
  (λ_=>[]) (λi=>l.length-i) (λi=>i≤p) 0 ?_ (Nat.zero_le _) ?_
 ·unfold a4n
  (simp+decide only[go_sem,a02,a00]<;>rfl)
 ·intro i hi;unfold a4n;have c1:(i:Int)<l.length:=by omega
  have hlt:i<l.length:=by omega
  have hw:=wI1 (n:=i) (by omega);by_cases hip:i<p
  ·obtain⟨x,hx⟩:∃x,l[i]?=some x:=⟨_,z9e hlt⟩
   have hcx:=λH=>b2u (d:=false) H x (hc i x hip hx)
   (repeat first|simp only[ww]|(apply xa;simp+decide only[go_sem,c1,hlt,hx,hw,hcx];rfl;kernel_rfl))
   refine a1p (i+1) ?_ (by omega) (by omega)
   (simp+decide only[go_sem,a02,a00,a4n]<;>rfl)
  ·obtain rfl:i=p:=by omega
   have hcx:=λ(H:a03)=>a06 (E:=L.env) (draw:=false) (call:=sem L.env Mf) (H:=H) (g:=94) (fs:=[]) (cs:=[]) (ar:=[.int .u8 v]) (by kernel_rfl) (by kernel_rfl) rfl rfl (c2x v hv) rfl
   (repeat first|simp only[ww]|(apply xa;simp+decide only[go_sem,c1,hlt,hp,hw,hcx];rfl;kernel_rfl))
   refine a4w (vs:=[.int .i64 i]) (r:=(_,_)) (by simp+decide only[go_sem]) ?_ rfl;simp+decide only[go_sem,a1e]<;>rfl
theorem c0l{d:Bool}(H:a03)(r:Rep)(l:List Nat)(p v:Nat)(hl:l.length<1000000)(hp:l[p]?=some v)(hv:3<v)(hc:∀i w,i<p→l[i]?=some w→w≤3):a0m L.env d (sem L.env Mf) (.func (.func 92) [] []) [sl r (l.map u8R),a4n] H=some (.bool true,H,[]):=by
 refine a06 (by kernel_rfl) (by kernel_rfl) rfl (by simp only[List.nil_append,List.append_nil,a0h,a1b];rfl) ?_ rfl;have h:=λH=>a06 (E:=L.env) (draw:=false) (call:=sem L.env Mf) (g:=139) (fs:=[]) (cs:=[]) (ar:=[sl r (l.map u8R),a4n]) (H:=H) (by kernel_rfl) (by kernel_rfl) rfl (by simp only[List.nil_append,List.append_nil,a0h,a1b];rfl) (c2l r l p v hl hp hv hc) rfl;unfold a4n at h⊢
 (refine sv Tryz.f92 ?_;simp only[Tryz.f92,gS])
 (repeat first|simp only[ww]|(apply xa;simp+decide only[go_sem,h];rfl;kernel_rfl))
 (apply fqb;simp+decide only[go_sem]<;>rfl)
section
variable (c:Cir)(hc:c.wf){k m:Nat}(ht:Tio c k m)(ra rb:Rep)(A B:List (Rep×List Nat))(hAl:A.length≤1000)
include hc ht hAl
theorem b8z(hAB:A.length≠B.length):sem L.env Mf 44 [.agg c.enc,sl ra (A.map vlR),sl rb (B.map vlR)] []=some (.int .i64 8,[]):=by
 obtain⟨t1,t2,t3,t4,t5,t6⟩:=ht;have hn:=hc.len;have hin:=λ(d:Bool) (H:a03)=>a4i (d:=d) H c (by omega);obtain⟨r0,e0⟩:=a8g (kinds c.nodes 0);rw[e0,t1]at hin;simp only[Cir.enc]at hin⊢;have c1:¬(1024:Int)<A.length:=by omega
 have c3:¬((A.length:Int)=(B.length:Int)):=by omega
 have c4:((A.length:Int) != (B.length:Int))=true:=by simp;omega
 (refine sv Tryz.f44 ?_;simp only[Tryz.f44,gS])
 (repeat first|simp only[ww]|(apply xa;simp+decide only[go_sem,hin,c1,c3,c4,List.length_map,List.length_range];rfl;kernel_rfl))
 (apply fqb;simp+decide only[go_sem]<;>rfl)
theorem c5w(hAB:A.length=B.length)(n:Nat)(hnl:n<A.length)(hA:∀i a,i<n→A[i]?=some a→a.2.length=k)(hA2:∀a,A[n]?=some a→a.2.length≠k)(hB:∀b∈B,b.2.length=m) :
 sem L.env Mf 44 [.agg c.enc,sl ra (A.map vlR),sl rb (B.map vlR)] []=some (.int .i64 8,[]):=by
 obtain⟨t1,t2,t3,t4,t5,t6⟩:=ht;have hn:=hc.len;have hin:=λ(d:Bool) (H:a03)=>a4i (d:=d) H c (by omega);obtain⟨r0,e0⟩:=a8g (kinds c.nodes 0);rw[e0,t1]at hin;simp only[Cir.enc]at hin⊢;have c1:¬(1024:Int)<A.length:=by omega
 have c2:B.length=A.length:=hAB.symm
 suffices hs:∃z:AV×a03,z=(.int .i64 8,[])∧sem L.env Mf 44 [.agg [sl c.nc (c.nodes.map Nd.enc),sl c.mc (c.names.map a39),.nilslice,sl c.oc (c.outs.map a11)],sl ra (A.map vlR),sl rb (B.map vlR)] []=some z by obtain⟨z,rfl,h3⟩:=hs;exact h3
 (refine svE Tryz.f44 ?_;simp only[Tryz.f44,gS])
 (repeat first|simp only[ww]|(apply xa;simp+decide only[go_sem,hin,c1,c2,List.length_map,List.length_range];rfl;kernel_rfl))
 refine a0n (σ:=Nat) kp44_1 (λi=>[(1,sl ra (A.map vlR)),(2,sl rb (B.map vlR)),(3,.ptr 0 0 0),(7,.int .i64 k),(24,.int .i64 A.length),(25,.int .i64 i)])
  (λi=>[some (.row 4 [[sl c.nc (c.nodes.map Nd.enc),sl c.mc (c.names.map a39),.nilslice,sl c.oc (c.outs.map a11)]])]) (λi=>A.length-i) (λi=>i≤n) 0 ?_ (Nat.zero_le _) ?_
 ·(simp+decide only[go_sem,a02,a00]<;>rfl)<;>rfl
 ·intro i hi;have hlt:i<A.length:=by omega
  have d1:(i:Int)<A.length:=by omega
  have hwi:=wI1 (n:=i) (by omega);have hlt2:i<B.length:=by omega
  obtain⟨a,ha⟩:∃a,A[i]?=some a:=⟨_,z9e hlt⟩
  obtain⟨b,hb⟩:∃b,B[i]?=some b:=⟨_,z9e hlt2⟩
  have b1:=hB b (List.mem_of_getElem? hb);have har:vlR a=[sl a.1 (a.2.map u8R)]:=rfl;have hbr:vlR b=[sl b.1 (b.2.map u8R)]:=rfl;by_cases hin2:i<n
  ·have a1:=hA i a hin2 ha
   (repeat first|simp only[ww]|(apply xa;simp+decide only[go_sem,d1,hlt,hlt2,ha,hb,har,hbr,a1,b1,t4,hwi,List.length_map];rfl;kernel_rfl))
   refine a1p (i+1) ?_ (by omega) (by omega)
   (simp+decide only[go_sem,a02,a00]<;>rfl)<;>rfl
  ·obtain rfl:i=n:=by omega
   have a1:=hA2 a ha;have a2:((a.2.length:Int) != (k:Int))=true:=by simp;omega
   have a3:¬((a.2.length:Int)=(k:Int)):=by omega
   (repeat first|simp only[ww]|(apply xa;simp+decide only[go_sem,d1,hlt,hlt2,ha,hb,har,hbr,a2,a3,b1,t4,hwi,List.length_map];rfl;kernel_rfl))
   refine a4w (vs:=[.int .i64 8]) (r:=(.int .i64 8,[])) (by rfl) ?_ rfl;rfl
theorem c5v(hAB:A.length=B.length)(hA0:A≠[])(hA:∀a∈A,a.2.length=k∧∀v∈a.2,v≤3)(hB:∀b∈B,b.2.length=m)(hB4:∀b,B[0]?=some b→b.2[0]?=some 4) :
 sem L.env Mf 44 [.agg c.enc,sl ra (A.map vlR),sl rb (B.map vlR)] []=some (.int .i64 1,[]):=by
 obtain⟨t1,t2,t3,t4,t5,t6⟩:=ht;have hn:=hc.len;have hin:=λ(d:Bool) (H:a03)=>a4i (d:=d) H c (by omega);obtain⟨r0,e0⟩:=a8g (kinds c.nodes 0);rw[e0,t1]at hin;simp only[Cir.enc]at hin⊢;have c1:¬(1024:Int)<A.length:=by omega
 have c2:B.length=A.length:=hAB.symm;have hA1:0<A.length:=List.length_pos_iff.2 hA0
 suffices hs:∃z:AV×a03,z=(.int .i64 1,[])∧sem L.env Mf 44 [.agg [sl c.nc (c.nodes.map Nd.enc),sl c.mc (c.names.map a39),.nilslice,sl c.oc (c.outs.map a11)],sl ra (A.map vlR),sl rb (B.map vlR)] []=some z by obtain⟨z,rfl,h3⟩:=hs;exact h3
 (refine svE Tryz.f44 ?_;simp only[Tryz.f44,gS])
 (repeat first|simp only[ww]|(apply xa;simp+decide only[go_sem,hin,c1,c2,List.length_map,List.length_range];rfl;kernel_rfl))
 refine a0n (σ:=Nat) kp44_1 (λi=>[(1,sl ra (A.map vlR)),(2,sl rb (B.map vlR)),(3,.ptr 0 0 0),(7,.int .i64 k),(24,.int .i64 A.length),(25,.int .i64 i)])
  (λi=>[some (.row 4 [[sl c.nc (c.nodes.map Nd.enc),sl c.mc (c.names.map a39),.nilslice,sl c.oc (c.outs.map a11)]])]) (λi=>A.length-i) (λi=>i≤A.length) 0 ?_ (Nat.zero_le _) ?_
 ·(simp+decide only[go_sem,a02,a00]<;>rfl)<;>rfl
 ·intro i hi;by_cases hlt:i<A.length
  ·have d1:(i:Int)<A.length:=by omega
   have hwi:=wI1 (n:=i) (by omega);have hlt2:i<B.length:=by omega
   obtain⟨a,ha⟩:∃a,A[i]?=some a:=⟨_,z9e hlt⟩
   obtain⟨b,hb⟩:∃b,B[i]?=some b:=⟨_,z9e hlt2⟩
   obtain⟨a1,a2⟩:=hA a (List.mem_of_getElem? ha);have b1:=hB b (List.mem_of_getElem? hb);have har:vlR a=[sl a.1 (a.2.map u8R)]:=rfl;have hbr:vlR b=[sl b.1 (b.2.map u8R)]:=rfl
   (repeat first|simp only[ww]|(apply xa;simp+decide only[go_sem,d1,hlt,hlt2,ha,hb,har,hbr,a1,b1,t4,hwi,List.length_map];rfl;kernel_rfl))
   refine a1p (i+1) ?_ (by omega) (by omega)
   (simp+decide only[go_sem,a02,a00]<;>rfl)<;>rfl
  ·obtain rfl:i=A.length:=by omega
   have d1:¬(A.length:Int)<A.length:=by omega
   (repeat first|simp only[ww]|(apply xa;simp+decide only[go_sem,d1,List.length_map];rfl;kernel_rfl))
   refine a0n (σ:=Unit) kp44_3 (λ_=>[(1,sl ra (A.map vlR)),(2,sl rb (B.map vlR)),(48,.int .i64 A.length),(49,.int .i64 0)])
    (λ_=>[]) (λ_=>0) (λ_=>True) () ?_ trivial ?_
   ·(simp+decide only[go_sem,a02,a00]<;>rfl)<;>rfl
   ·intro _ _;have d2:(0:Int)<A.length:=by omega
    have hlt2:0<B.length:=by omega
    obtain⟨a,ha⟩:∃a,A[0]?=some a:=⟨_,z9e hA1⟩
    obtain⟨b,hb⟩:∃b,B[0]?=some b:=⟨_,z9e hlt2⟩
    obtain⟨a1,a2⟩:=hA a (List.mem_of_getElem? ha);have b1:=hB b (List.mem_of_getElem? hb);have b4:=hB4 b hb;have har:vlR a=[sl a.1 (a.2.map u8R)]:=rfl;have hbr:vlR b=[sl b.1 (b.2.map u8R)]:=rfl;have hco:=λ(d:Bool)=>b14 (d:=d) a.1 b.1 a.2 b.2 (by omega);have hne:a.2++b.2≠[]:=by intro e;have h2:=(List.append_eq_nil_iff.1 e).1;rw[h2,List.length_nil]at a1;omega
    rw[c1k hne]at hco;have hcf:=λ(d:Bool) (H:a03)=>c0l (d:=d) H (some none) (a.2++b.2) a.2.length 4 (by rw[List.length_append];omega) (by rw[List.getElem?_append_right (Nat.le_refl _),Nat.sub_self];exact b4) (by omega) (λi w hi hw=>by rw[List.getElem?_append_left hi]at hw;exact a2 w (List.mem_of_getElem? hw));simp only[a24,a4n,List.map_append]at hcf;have hrA:Ax.rowAt (A.map vlR) 0=some [sl a.1 (a.2.map u8R)]:=by unfold Ax.rowAt;rw[if_pos (by omega)];show(A.map vlR)[0]?=_;rw[List.getElem?_map,ha];rfl
    have hrB:Ax.rowAt (B.map vlR) 0=some [sl b.1 (b.2.map u8R)]:=by unfold Ax.rowAt;rw[if_pos (by omega)];show(B.map vlR)[0]?=_;rw[List.getElem?_map,hb];rfl
    (repeat first|simp only[ww]|(apply xa;simp+decide only[go_sem,d2,hA1,hlt2,hrA,hrB,hco,hcf,List.length_map];rfl;kernel_rfl))
    refine a4w (vs:=[.int .i64 1]) (r:=(.int .i64 1,[])) (by rfl) ?_ rfl;rfl
omit hc ht hAl in
theorem c0d{d:Bool}{H:a03}{V W:AV}{e:Int}(hV:a1u 0 false (a2i (a01 H) 0 12) V=some (sl ra (A.map vlR)))(hW:a1u 0 false (a2i (a01 H) 0 12) W=some (sl rb (B.map vlR)))(hr:sem L.env Mf 44 [.agg c.enc,sl ra (A.map vlR),sl rb (B.map vlR)] []=some (.int .i64 e,[])) :
 a0m L.env d (sem L.env Mf) (.func (.func 44) [] []) [.agg c.enc,V,W] H=some (.int .i64 e,H,List.range H.length):=
 a47 (args:=[.agg c.enc,V,W]) (args':=[.agg c.enc,sl ra (A.map vlR),sl rb (B.map vlR)]) (by kernel_rfl) (by kernel_rfl) rfl (by rw[a14,a29 _ _ _ (.agg c.enc) (by rw[a1o];exact a4r c),a14,hV,a14,hW];rfl) hr rfl rfl
end
theorem b7p(c:Cir)(hc:c.wf){k m:Nat}(ht:Tio c k m)(ra rb:Rep)(A B:List (Rep×List Nat))(hAl:A.length≤1000)(hAB:A.length=B.length)(hA:∀a∈A,a.2.length=k∧∀v∈a.2,v≤3)(hB:∀a∈B,a.2.length=m∧∀v∈a.2,v≤3) :
 ∃r:AV×a03,(∃H1 V,r=(.tuple [.agg [.slice 2 0 (k+m) (some (k+m)),.slice 3 0 1 (some 1),V],.int .i64 0],H1)∧noI V=true∧a01 H1 2=some (.row 2 ((sgs k m).map Sgn.row))∧a01 H1 3=some (.row 6 [tmR])∧((a60 A B=[]∧V = .nilslice)∨(a60 A B≠[]∧V = .slice 4 0 (a60 A B).length (some (a60 A B).length)∧a01 H1 4=some (.row 3 ((a60 A B).map vcR)))))∧sem L.env Mf 17 [.agg c.enc,sl ra (A.map vlR),sl rb (B.map vlR)] []=some r:=by
 have hsg:=λ(d:Bool) (H:a03)=>a7h (d:=d) H c hc ht;have hft:=λ(d:Bool) (H:a03)=>b9j (d:=d) (H:=H) c hc ht (ra:=ra) (rb:=rb) hAl hAB hA hB (a29 _ _ _ _ (a1b _ _)) (a29 _ _ _ _ (a1b _ _));have hcl:=λ(d:Bool) (H:a03) (r:Rep) (vs:List Nat) (h:vs.length<1000000)=>b32 (d:=d) H r vs 48 49 48 49 rfl rfl h;have hcl2:=λ(d:Bool) (H:a03) (r:Rep) (vs:List Nat) (h:vs.length<1000000)=>b32 (d:=d) H r vs 76 72 76 72 rfl rfl h;obtain⟨t1,t2,t3,t4,t5,t6⟩:=ht;have hBA:B.length=A.length:=hAB.symm;have hcy:=b92 hAB;have hcg:=λi a b h1 h2=>b4c (A:=A) (B:=B) (i:=i) (a:=a) (b:=b) h1 h2;generalize a60 A B=V at hcy hcg;have hsl:=a3b k m;have hR1:=a0d (a2k (sgs k m));have hR2:=λπ=>a08 π (a2k (sgs k m));have hRl:((sgs k m).map Sgn.row).length=k+m:=by rw[List.length_map,hsl]
 obtain⟨R0,hR0⟩:∃R0,(sgs k m).map Sgn.row=R0:=⟨_,rfl⟩
 rw[hR0]at hsg hR1 hR2 hRl⊢;simp only[Cir.enc]at hsg hft⊢
 (refine svE Tryz.f17 ?_;simp only[Tryz.f17,gS])
 (repeat first|simp only[ww]|(apply xa;simp+decide only[go_sem,hsg,hft];rfl;kernel_rfl))
 refine a0n (σ:=Nat) kp17_0 (λi=>[(1,sl ra (A.map vlR)),(2,sl rb (B.map vlR)),(6,.ptr 0 0 0),(10,.ptr 1 0 0),(34,.int .i64 A.length),(35,.int .i64 i)])
  (λi=>[some (.row 3 [[.nilslice,.nilslice,.nilslice]]),some (.row 3 [[.slice 2 0 (k+m) (some (k+m)),.slice 3 0 1 (some 1),grV 4 ((V.take i).map vcR)]]),some (.row 2 R0),some (.row 6 [tmR])]++grH 3 ((V.take i).map vcR)) (λi=>A.length-i) (λi=>i≤A.length) 0 ?_ (Nat.zero_le _) ?_
 ·rw[List.take_zero]
  (simp+decide only[go_sem,a02,a00,List.map_nil,a0x,a0y,hR1,hR2,tmR]<;>rfl)<;>rfl
 ·intro i hi;by_cases hlt:i<A.length
  ·have d1:(i:Int)<A.length:=by omega
   have hwi:=wI1 (n:=i) (by omega);have hlt2:i<B.length:=by omega
   obtain⟨a,ha⟩:∃a,A[i]?=some a:=⟨_,z9e hlt⟩
   obtain⟨b,hb⟩:∃b,B[i]?=some b:=⟨_,z9e hlt2⟩
   obtain⟨a1,a2⟩:=hA a (List.mem_of_getElem? ha);obtain⟨b1,b2⟩:=hB b (List.mem_of_getElem? hb);have har:vlR a=[sl a.1 (a.2.map u8R)]:=rfl;have hbr:vlR b=[sl b.1 (b.2.map u8R)]:=rfl;have hc1:=λ(d:Bool) (H:a03)=>hcl d H a.1 a.2 (by omega);have hc2:=λ(d:Bool) (H:a03)=>hcl2 d H b.1 b.2 (by omega);have hvs:V.take (i+1)=V.take i++[cyc a.2 b.2]:=a1x (hcg i a b ha hb);have hcd:d1w BinOp.add (a.2.map (a5w 48 49)) (b.2.map (a5w 76 72))=some (.str (cyc a.2 b.2)):=by
    have hle:(a.2.map (a5w 48 49)).length+(b.2.map (a5w 76 72)).length≤4611686018427387904:=by rw[List.length_map,List.length_map];omega
    simp only[d1w,decide_eq_true hle,cond_true];rfl
   have hvl:(V.take i).length=i:=by rw[List.length_take];omega
   have hf:=b48 (V.take i);cases hw0:V.take i with
   |nil=>
    (repeat first|simp only[ww]|(apply xa;simp+decide only[go_sem,d1,hlt,hlt2,ha,hb,har,hbr,hc1,hc2,hcd,hwi,List.map_nil,a0x,a0y,List.length_map];rfl;kernel_rfl))
    refine a1p (i+1) ?_ (by omega) (by omega);rw[hvs,hw0]
    (simp+decide only[go_sem,a02,a00,List.nil_append,List.map_cons,List.map_nil,a0b,a0c,List.length_nil,hR1,hR2,tmR,vcR]<;>rfl)<;>rfl
   |cons v r=>
    rw[hw0]at hvl hf;have hrm:r.length+1+1≤1000000000:=by simp only[List.length_cons]at hvl;omega
    have hf2:=b48 r;have h3:=a0d hf2;have h4:=λπ=>a08 π hf2
    (repeat first|simp only[ww]|(apply xa;simp+decide only[go_sem,d1,hlt,hlt2,ha,hb,har,hbr,hc1,hc2,hcd,hwi,List.map_cons,a0b,a0c,hrm,List.length_map];rfl;kernel_rfl))
    refine a1p (i+1) ?_ (by omega) (by omega);rw[hvs,hw0]
    (simp+decide only[go_sem,a02,a00,List.cons_append,List.map_cons,List.map_append,List.map_nil,a0b,a0c,List.length_append,List.length_cons,List.length_nil,List.length_map,hR1,hR2,tmR,vcR,h3,h4,List.append_nil]<;>rfl)<;>rfl
  ·obtain rfl:i=A.length:=by omega
   have d1:¬(A.length:Int)<A.length:=by omega
   rw[List.take_of_length_le (by omega)];have hn:=λ(d:Bool) (H:a03)=>b6k (d:=d) H;cases hV:V with
   |nil=>
    (repeat first|simp only[ww]|(apply xa;simp+decide only[go_sem,d1,hn,List.map_nil,a0x,a0y,List.length_map];rfl;kernel_rfl))
    refine a4w (vs:=[.agg [.slice 2 0 (k+m) (some (k+m)),.slice 3 0 1 (some 1),.nilslice],.int .i64 0]) (r:=(.tuple [.agg [.slice 2 0 (k+m) (some (k+m)),.slice 3 0 1 (some 1),.nilslice],.int .i64 0],[some (.row 3 [[.slice 2 0 (k+m) (some (k+m)),.slice 3 0 1 (some 1),.nilslice]]),some (.row 3 [[.slice 2 0 (k+m) (some (k+m)),.slice 3 0 1 (some 1),.nilslice]]),some (.row 2 R0),some (.row 6 [tmR])])) (by simp+decide only[go_sem]<;>rfl) ?_ ⟨_,_,rfl,rfl,rfl,rfl,by first|exact .inl ⟨rfl,rfl⟩|exact .inl ⟨trivial,rfl⟩|simp⟩;rfl
   |cons v r=>
    have hfc:=b48 (v::r);have hcp:=λ(d:Bool) (X Y Z W:Option AObj)=>b9h (d:=d) (H:=[X,Y,Z,W,some (.row 3 ((v::r).map vcR))]) (b:=4) (n:=r.length+1) hfc rfl;have hne:(v::r).map vcR≠[]:=by simp
    have hln:((v::r).map vcR).length=r.length+1:=by simp
    have hVn:V≠[]:=by rw[hV];simp
    have hVl:V.length=r.length+1:=by rw[hV];rfl
    rw[a4s 4 hne,a4t 3 hne,hln];rw[←hV]at hcp hln⊢;generalize hR1':V.map vcR=RV at hcp hln⊢
    (repeat first|simp only[ww]|(apply xa;simp+decide only[go_sem,d1,hcp,List.length_map];rfl;kernel_rfl))
    refine a4w (vs:=[.agg [.slice 2 0 (k+m) (some (k+m)),.slice 3 0 1 (some 1),.slice 4 0 (r.length+1) (some (r.length+1))],.int .i64 0]) (r:=(.tuple [.agg [.slice 2 0 (k+m) (some (k+m)),.slice 3 0 1 (some 1),.slice 4 0 (r.length+1) (some (r.length+1))],.int .i64 0],[some (.row 3 [[.slice 2 0 (k+m) (some (k+m)),.slice 3 0 1 (some 1),.slice 4 0 (r.length+1) (some (r.length+1))]]),some (.row 3 [[.slice 2 0 (k+m) (some (k+m)),.slice 3 0 1 (some 1),.slice 4 0 (r.length+1) (some (r.length+1))]]),some (.row 2 R0),some (.row 6 [tmR]),some (.row 3 RV)])) (by simp+decide only[go_sem]<;>rfl) ?_ ⟨_,_,rfl,rfl,rfl,rfl,.inr ⟨hVn,by rw[hVl],rfl⟩⟩;rfl
theorem c9g(l:List Sgn):(l.map Sgn.row).all b3q=true:=by rw[List.all_eq_true];intro r hr;obtain⟨s,_,rfl⟩:=List.mem_map.1 hr;rfl
theorem c9f(l:List (List UInt8)):(l.map vcR).all b3q=true:=by rw[List.all_eq_true];intro r hr;obtain⟨s,_,rfl⟩:=List.mem_map.1 hr;rfl
theorem b15{H:a03}{b k:Nat}{rows:List (List AV)}(h:a01 H b=some (.row k rows))(hn:rows.all b3q=true):a5u H b=some (.row k rows):=by unfold a5u;rw[h];show(bif rows.all b3q then _ else _)=_;rw[hn];rfl
theorem a7v{d:Bool}{H:a03}(c:Cir)(hc:c.wf){k m:Nat}(ht:Tio c k m)(ra rb:Rep)(A B:List (Rep×List Nat))(hAl:A.length≤1000)(hAB:A.length=B.length)(hA:∀a∈A,a.2.length=k∧∀v∈a.2,v≤3)(hB:∀a∈B,a.2.length=m∧∀v∈a.2,v≤3){X Y:AV}
 (hX:a1u 0 false (a2i (a01 H) 0 12) X=some (sl ra (A.map vlR)))(hY:a1u 0 false (a2i (a01 H) 0 12) Y=some (sl rb (B.map vlR))) :
 a0m L.env d (sem L.env Mf) (.func (.func 17) [] []) [.agg c.enc,X,Y] H=some (.tuple [.agg (b6g (sgs k m) (a60 A B)),.int .i64 0],H,List.range H.length):=by
 obtain⟨r,⟨H1,V,rfl,hVn,h2,h3,h4⟩,hr⟩:=b7p c hc ht ra rb A B hAl hAB hA hB;have hfa:a3s 0 false (a2i (a01 H) 0 12) [.agg c.enc,X,Y]=some [.agg c.enc,sl ra (A.map vlR),sl rb (B.map vlR)]:=by rw[a14,a29 _ _ _ (.agg c.enc) (by rw[a1o];exact a4r c),a14,hX,a14,hY];rfl
 have hsl:=a3b k m;have c2:=b15 h2 (c9g _);have c3:=b15 h3 (by rfl);have f2:=λd=>a0s (m:=0) (d:=d) (a2k (sgs k m));have f3:=λd=>a0s (m:=0) (d:=d) (rows:=[tmR]) (FlatR.cons rfl FlatR.nil);have g2:((sgs k m).map Sgn.row).take (k+m)=(sgs k m).map Sgn.row:=List.take_of_length_le (by rw[List.length_map,hsl];omega);have hl2:((sgs k m).map Sgn.row).length=k+m:=by rw[List.length_map,hsl]
 refine a47 (args:=[.agg c.enc,X,Y]) (by kernel_rfl) (by kernel_rfl) rfl hfa hr (by show(b3q [_,_,V]&&_)=true;simp only[b3q,noI,hVn];rfl) ?_;unfold b6g;rw[hsl];have hsn:[tmR].drop 0=[tmR]:=rfl;rcases h4 with ⟨e,rfl⟩|⟨e,rfl,h5⟩
 ·rw[e];generalize(sgs k m).map Sgn.row=R0 at *;simp+decide only[go_sem,a56,a45,c2,c3,a5y,a07,g2,f2,f3,hl2,b6j,List.length_cons,List.length_nil,Nat.zero_add,Nat.le_refl,decide_true,decide_false,cond_true,cond_false,List.drop_zero,List.take_succ_cons,List.take_zero]
 ·have c4:=b15 h5 (c9f _);have f4:=λd=>a0s (m:=0) (d:=d) (b48 (a60 A B));have g4:((a60 A B).map vcR).take (a60 A B).length=(a60 A B).map vcR:=List.take_of_length_le (by simp);have hl4:((a60 A B).map vcR).length=(a60 A B).length:=by simp
  have hvv:b6j (a60 A B) = .islice ((a60 A B).map vcR) (some (a60 A B).length):=by
   cases h:a60 A B with
   |nil=>exact absurd h e
   |cons v r=>rfl
  rw[hvv];generalize(sgs k m).map Sgn.row=R0 at *;generalize(a60 A B).map vcR=RV at *;simp+decide only[go_sem,a56,a45,c2,c3,c4,a5y,a07,g2,f2,f3,f4,g4,hl2,hl4,List.length_cons,List.length_nil,Nat.zero_add,Nat.le_refl,decide_true,decide_false,cond_true,cond_false,List.drop_zero,List.take_succ_cons,List.take_zero]
theorem a41{d:Bool}{H:a03}(c:Cir)(hc:c.wf){k m:Nat}(ht:Tio c k m)(ra rb:Rep)(A B:List (Rep×List Nat)){X Y:AV}{e:Int}(he:e≠0)
 (hX:a1u 0 false (a2i (a01 H) 0 12) X=some (sl ra (A.map vlR)))(hY:a1u 0 false (a2i (a01 H) 0 12) Y=some (sl rb (B.map vlR)))(hr:sem L.env Mf 44 [.agg c.enc,sl ra (A.map vlR),sl rb (B.map vlR)] []=some (.int .i64 e,[])) :
 a0m L.env d (sem L.env Mf) (.func (.func 17) [] []) [.agg c.enc,X,Y] H=some (.tuple [.agg [.nilslice,.nilslice,.nilslice],.int .i64 e],H,List.range H.length):=by
 have hsg:=λ(d:Bool) (H:a03)=>a7h (d:=d) H c hc ht;have hft:=λ(d:Bool) (H:a03)=>c0d (d:=d) (H:=H) c ra rb A B (a29 _ _ _ _ (a1b _ _)) (a29 _ _ _ _ (a1b _ _)) hr;have hne:¬e=0:=he;have hs:∃r:AV×a03,r.1 = .tuple [.agg [.nilslice,.nilslice,.nilslice],.int .i64 e]∧sem L.env Mf 17 [.agg c.enc,sl ra (A.map vlR),sl rb (B.map vlR)] []=some r:=by
  simp only[Cir.enc]at hsg hft⊢
  (refine svE Tryz.f17 ?_;simp only[Tryz.f17,gS])
  (repeat first|simp only[ww]|(apply xa;simp+decide only[go_sem,hsg,hft,hne];rfl;kernel_rfl))
  refine a4w (vs:=[.agg [.nilslice,.nilslice,.nilslice],.int .i64 e]) (r:=(.tuple [.agg [.nilslice,.nilslice,.nilslice],.int .i64 e],[some (.row 4 [[sl c.nc (c.nodes.map Nd.enc),sl c.mc (c.names.map a39),.nilslice,sl c.oc (c.outs.map a11)]]),some (.row 3 [[.nilslice,.nilslice,.nilslice]]),some (stO (nms k m)),some (.row 2 ((sgs k m).map Sgn.row))])) (by simp+decide only[go_sem]<;>rfl) ?_ rfl;rfl
 obtain⟨⟨v,H1⟩,hv1,h⟩:=hs;dsimp only at hv1;subst hv1;have hfa:a3s 0 false (a2i (a01 H) 0 12) [.agg c.enc,X,Y]=some [.agg c.enc,sl ra (A.map vlR),sl rb (B.map vlR)]:=by rw[a14,a29 _ _ _ (.agg c.enc) (by rw[a1o];exact a4r c),a14,hX,a14,hY];rfl
 exact a47 (args:=[.agg c.enc,X,Y]) (by kernel_rfl) (by kernel_rfl) rfl hfa h rfl rfl
theorem c9p(c:Cir)(hc:c.wf)(pr:Rep)(ps:List Pat)(hps:∀p∈ps,PxOk p)(hpl:ps.length≤8):∃r:AV×a03,(∃qs:List Pat,qs.length=ps.length∧(∀q∈qs,PatOk c.nodes q)∧r=(grV 1 (qs.map inR),if ps=[]then[]else some (.row 4 [[sl c.nc (c.nodes.map Nd.enc),sl c.mc (c.names.map a39),.nilslice,sl c.oc (c.outs.map a11)]])::grH 1 (qs.map inR)))∧
 sem L.env Mf 16 [.agg c.enc,sl pr (ps.map Pat.enc)] []=some r:=by
 have hpo:=λp hp=>c4v c hc p (hps p hp);have hCf:∀π:Nat→Option Nat,a0j π (.row 4 [[sl c.nc (c.nodes.map Nd.enc),sl c.mc (c.names.map a39),.nilslice,sl c.oc (c.outs.map a11)]]) = .row 4 [[sl c.nc (c.nodes.map Nd.enc),sl c.mc (c.names.map a39),.nilslice,sl c.oc (c.outs.map a11)]]:=λπ=>by simp+decide only[go_sem]
 simp only[Cir.enc,Pat.enc]at hpo⊢
 (refine svE Tryz.f16 ?_;simp only[Tryz.f16,gS])
 (repeat first|simp only[ww]|(apply xa;simp+decide only[go_sem];rfl;kernel_rfl))
 refine a9b kp16_0 (λn F H=>∃qs:List Pat,n=ps.length-qs.length∧qs.length≤ps.length∧(∀q∈qs,PatOk c.nodes q)∧F=[(1,sl pr (ps.map Pat.enc)),(2,.ptr 0 0 0),(5,grV 1 (qs.map inR)),(6,.int .i64 qs.length)]∧
  H=some (.row 4 [[sl c.nc (c.nodes.map Nd.enc),sl c.mc (c.names.map a39),.nilslice,sl c.oc (c.outs.map a11)]])::grH 1 (qs.map inR)) ps.length ?_ ?_
 ·refine⟨_,_,?_,[],rfl,Nat.zero_le _,by simp,rfl,rfl⟩
  (simp+decide only[go_sem,a02,a00,List.map_nil,a0x,a0y,Pat.enc]<;>rfl)<;>rfl
 ·rintro n F H ⟨qs,rfl,hql,hqo,rfl,rfl⟩
  by_cases hlt:qs.length<ps.length
  ·obtain⟨p,hp⟩:∃p,ps[qs.length]?=some p:=⟨_,z9e hlt⟩
   obtain⟨q,hq,hcall⟩:=hpo p (List.mem_of_getElem? hp);have c1:(qs.length:Int)<ps.length:=by omega
   have hw:=wI1 (n:=qs.length) (by omega);have hf:=a8m qs;have h1:=a0d hf;have h2:=λπ=>a08 π hf;have hpe:Pat.enc p=[sl p.ic (p.ins.map u8R),sl p.sc (p.sts.map u8R)]:=rfl;have hqo':∀x∈qs++[q],PatOk c.nodes x:=by
    intro x hx;rcases List.mem_append.1 hx with hx|hx
    ·exact hqo x hx
    ·rw[List.mem_singleton.1 hx];exact hq
   cases qs with
   |nil=>
    simp only[List.length_nil]at c1 hw hlt hp
    (repeat first|simp only[ww]|(apply xa;simp+decide only[go_sem,c1,hlt,hp,hpe,hcall,hw,List.map_nil,a0x,a0y,List.length_nil,List.length_map];rfl;kernel_rfl))
    refine a40 (ps.length-1) (by simp at hlt⊢;omega) ⟨_,_,?_,[q],rfl,by simp;omega,hqo',rfl,rfl⟩
    (simp+decide only[go_sem,a02,a00,List.map_cons,List.map_nil,a0b,a0c,List.length_nil,List.length_cons,inR]<;>rfl)<;>rfl
   |cons a r=>
    simp only[List.length_cons]at c1 hw hlt hp hql;have hrm:r.length+1+1≤1000000000:=by omega
    have hf2:=a8m r;have h3:=a0d hf2;have h4:=λπ=>a08 π hf2;have h5:=b3z a;have h6:=λπ=>c9q π a
    (repeat first|simp only[ww]|(apply xa;simp+decide only[go_sem,c1,hlt,hp,hpe,hcall,hw,List.map_cons,a0b,a0c,hrm,List.length_cons,List.length_map];rfl;kernel_rfl))
    refine a40 (ps.length-(r.length+1+1)) (by simp;omega) ⟨_,_,?_,(a::r)++[q],by simp,by simp;omega,hqo',rfl,rfl⟩
    (simp+decide only[go_sem,a02,a00,List.cons_append,List.map_cons,List.map_append,List.map_nil,a0b,a0c,List.length_cons,List.length_append,List.length_nil,List.length_map,h3,h4,h5,h6,List.append_nil]<;>rfl)<;>rfl
  ·obtain e:ps.length=qs.length:=by omega
   have c1:¬(qs.length:Int)<ps.length:=by omega
   cases qs with
   |nil=>
    have hpn:ps=[]:=List.eq_nil_of_length_eq_zero (by simpa using e);simp only[List.length_nil]at c1
    (repeat first|simp only[ww]|(apply xa;simp+decide only[go_sem,c1,List.map_nil,a0x,a0y,List.length_nil,List.length_map];rfl;kernel_rfl))
    refine a4w (vs:=[.nilslice]) (r:=(.nilslice,[])) (by simp+decide only[go_sem]) ?_ ⟨[],by simpa using e.symm,by simp,by rw[if_pos hpn];rfl⟩;rfl
   |cons a r=>
    have hpn:ps≠[]:=by intro h;rw[h]at e;simp at e
    simp only[List.length_cons]at c1
    (repeat first|simp only[ww]|(apply xa;simp+decide only[go_sem,c1,List.map_cons,a0b,a0c,List.length_cons,List.length_map];rfl;kernel_rfl))
    refine a4w (vs:=[.slice 1 0 (r.length+1) none]) (r:=(.slice 1 0 (r.length+1) none,[some (.row 4 [[sl c.nc (c.nodes.map Nd.enc),sl c.mc (c.names.map a39),.nilslice,sl c.oc (c.outs.map a11)]]),some (.row 1 (inR a::r.map inR))])) (by simp+decide only[go_sem]<;>rfl) ?_ ⟨a::r,e.symm,hqo,by rw[if_neg hpn,List.map_cons,a0b,a0c,List.length_map]⟩;rfl
theorem c2i(c:Cir)(hc:c.wf)(pr:Rep)(ps:List Pat)(hps:∀p∈ps,PxOk p)(hpl:ps.length≤8):∃qs:List Pat,qs.length=ps.length∧(∀q∈qs,PatOk c.nodes q)∧
 ((qs=[]∧∀(d:Bool) (H:a03),a0m L.env d (sem L.env Mf) (.func (.func 16) [] []) [.agg c.enc,sl pr (ps.map Pat.enc)] H=some (.nilslice,H,[]))∨
 (qs≠[]∧∀(d:Bool) (H:a03),a0m L.env d (sem L.env Mf) (.func (.func 16) [] []) [.agg c.enc,sl pr (ps.map Pat.enc)] H=some (.slice (H.length+1) 0 qs.length none,H++[some (.row 4 [[sl c.nc (c.nodes.map Nd.enc),sl c.mc (c.names.map a39),.nilslice,sl c.oc (c.outs.map a11)]]),some (.row 1 (qs.map inR))],[]))):=by
 obtain⟨r,⟨qs,h1,h2,rfl⟩,h⟩:=c9p c hc pr ps hps hpl;refine⟨qs,h1,h2,?_⟩;have hr:a0i [.agg c.enc,sl pr (ps.map Pat.enc)]=[]:=by simp only[a0h,a1b,a26,List.append_nil];exact a4r _
 have hh:=λ(d:Bool) (H:a03)=>b19 (E:=L.env) (d:=d) (H:=H) (fs:=[]) (cs:=[]) (ar:=[.agg c.enc,sl pr (ps.map Pat.enc)]) (by kernel_rfl) (by kernel_rfl) rfl (by simpa using hr) h;cases qs with
 |nil=>have hpn:ps=[]:=List.eq_nil_of_length_eq_zero (by simpa using h1.symm);refine .inl ⟨rfl,λd H=>(hh d H).trans ?_⟩;rw[if_pos hpn];simp[ren,grV]
 |cons a t=>
  have hpn:ps≠[]:=by intro h;rw[h]at h1;simp at h1
  refine .inr ⟨by simp,λd H=>(hh d H).trans ?_⟩;rw[if_neg hpn];have hf:=a08 (a0z [] H.length) (a8m (a::t));have hc2:∀(r:Rep) (rows:List (List AV)),ren (a0z [] H.length) (sl r rows)=sl r rows:=λr rows=>a3k _ _ (a1b _ _);simp only[List.map_cons]at hf;simp only[List.map_cons,List.map_nil,a0b,a0c,Option.map_some,List.length_map,List.length_cons];simp only[a0j,List.map_cons,List.map_nil,hf,hc2,ren,c3f]<;>rfl
def zvl(zs:List Nat)(a:Nat):Nat:=if zs=[]then 2 else zs.getD (a%zs.length) 0%4
theorem d29(zs:List Nat)(a:Nat):zvl zs a≤3:=by unfold zvl;split<;>omega
def wrT(zs:List Nat)(m j q:Nat):List Nat:=(List.range q).map λk=>zvl zs (j*m+k)
theorem d2a(zs:List Nat)(m j q:Nat):wrT zs m j (q+1)=wrT zs m j q++[zvl zs (j*m+q)]:=by simp[wrT,List.range_succ]
theorem a70(zs:List Nat)(m j q:Nat):(wrT zs m j q).length=q:=by simp[wrT]
theorem d2b(zs:List Nat)(m j q:Nat):∀v∈wrT zs m j q,v≤3:=by intro v hv;obtain⟨k,_,rfl⟩:=List.mem_map.1 hv;exact d29 _ _
theorem b5y(l:List Nat):FlatR (l.map u8R):=FlatR.map λ_=>rfl
def a9c(zs:List Nat)(m i:Nat):List (List AV):=(List.range (i-1)).map λj=>[sl none ((wrT zs m (j+1) m).map u8R)]
theorem c89(zs:List Nat)(m i:Nat)(hi:1≤i):a9c zs m (i+1)=a9c zs m i++[[sl none ((wrT zs m i m).map u8R)]]:=by
 obtain⟨j,rfl⟩:∃j,i=j+1:=⟨i-1,by omega⟩
 simp[a9c,List.range_succ]
theorem b4y(zs:List Nat)(m i:Nat):(a9c zs m i).length=i-1:=by simp[a9c]
theorem b1y(zs:List Nat)(m i:Nat):FlatR (a9c zs m i):=FlatR.map λ_=>by simp only[a0h,a1b,a26,List.append_nil]
def wBl(zs:List Nat)(m n:Nat):List (Rep×List Nat):=(List.range n).map λj=>(some none,wrT zs m j m)
theorem c8a(zs:List Nat)(m n:Nat):(wBl zs m n).length=n:=by simp[wBl]
theorem d2c(zs:List Nat)(m n:Nat)(hm:1≤m):[.islice ((wrT zs m 0 m).map u8R) none]::a9c zs m (n+1)=(wBl zs m (n+1)).map vlR:=by
 unfold wBl a9c;rw[List.range_succ_eq_map,List.map_cons,List.map_map,List.map_cons,List.map_map];show _::_=_::_
 congr 1
 apply List.map_congr_left;intro j _;have:(wrT zs m (j+1) m).map u8R≠[]:=by intro e;have:=congrArg List.length e;rw[List.length_map,a70]at this;simp at this;omega
 show [sl none _]=[sl (some none) _]
 rw[a87 this,a24];rfl
theorem b8t{m:Nat}{d:AV→Option AV}{v v':AV}(hv:a1u m false d v=some v'):∀{R:List (List AV)} (j:Nat),FlatR R→a6u m d (R.set j [v])=some (R.set j [v'])
 | [],j,_=>by simp[a6u]
 |r::R,0,h=>by have hR:=a0s (m:=m) (d:=d) (λx hx=>h x (List.mem_cons_of_mem _ hx):FlatR R);simp only[List.set_cons_zero,a6f,a14,hv,b47,hR,a07]
 |r::R,j+1,h=>by have hR:=b8t hv (R:=R) j (λx hx=>h x (List.mem_cons_of_mem _ hx));have hr:a3s m false d r=some r:=a3r m false d r (h r (by simp));simp only[List.set_cons_succ,a6f,hr,hR,a07]
theorem lawComp_ok(hlv:∀H,a0m L.env false (sem L.env Mf) (.func (.func 12) [] []) [] H=some (.bool true,H,[]))(x:CX)(hx:x.ok)(pr:Rep)(ps:List Pat)(hps:∀p∈ps,PxOk p)(hpl0:ps.length<9223372036854775808)(zr:Rep)(zs:List Nat)(hzs:∀z∈zs,z<256)(hzl:zs.length<9223372036854775808)(what:Nat)(hwh:what<256)
 (c:Cir)(hlo:∀(d:Bool) (H:a03),a0m L.env d (sem L.env Mf) (.func (.func 15) [] []) [.agg x.enc] H=some (.agg c.enc,H,[]))(hc:c.wf){k m:Nat}(ht:Tio c k m) :
 sem L.env Mf 4 [.agg x.enc,sl pr (ps.map Pat.enc),.agg [sl zr (zs.map u8R),.int .u8 what]] []=some (.bool true,[]):=by
 have hkl:(kinds c.nodes 0).length=k:=by rw[ht.ins];simp
 suffices hss:∃r:AV×a03,(r=(.bool true,[]))∧sem L.env Mf 4 [.agg x.enc,sl pr (ps.map Pat.enc),.agg [sl zr (zs.map u8R),.int .u8 what]] []=some r by obtain⟨r,rfl,h3⟩:=hss;exact h3
 by_cases hpl:ps.length≤8
 ·have d0:¬((8:Int)<ps.length):=by omega
  obtain⟨qs,hq1,hq2,hins⟩:=c2i c hc pr ps hps hpl;have hm4:=ht.m4;have hm1:=ht.m1;have hout:=ht.out;simp only[Cir.enc,CX.enc]at hlo hins⊢;rcases hins with ⟨rfl,hin⟩|⟨hne,hin⟩
  ·have w2:=wB (n:=what%4) (by omega);have hb4:what%4=0∨what%4=1∨what%4=2∨what%4=3:=by omega
   (refine svE Tryz.f4 ?_;simp only[Tryz.f4,gS])
   (repeat first|simp only[ww]|(apply xa;simp+decide only[go_sem,hlo,d0,hin,List.length_map,List.length_cons,List.length_nil];rfl;kernel_rfl))
   obtain⟨k1,k4⟩:1≤k∧k≤4:=⟨ht.k1,ht.k4⟩
   have hck:=λ(d:Bool) (H:a03)=>b31 (d:=d) k1 k4 hm1 hm4 (vs:=[]) (by simp) (by simp) H;have hcm:=λ(d:Bool) (K:a03)=>a7v (d:=d) (H:=K) c hc ht none none [] [] (X:=.nilslice) (Y:=.nilslice) (by simp) rfl (by simp) (by simp) rfl rfl;have hsl:=a3b k m;have hpr:b6g (sgs k m) []=[.islice ((sgs k m).map Sgn.row) (some (k+m)),.islice [tmR] (some 1),.nilslice]:=by unfold b6g;rw[hsl];rfl
   have hcy:a60 [] []=[]:=rfl;rw[hcy,hpr]at hcm;rw[hpr]at hck;simp only[Cir.enc,tmR]at hcm hck;have hPF:FlatR [[AV.islice ((sgs k m).map Sgn.row) (some (k+m)),AV.islice [[AV.str [116],AV.int .i64 (100:Int),AV.int .i64 (0:Int),AV.int .i64 (30:Int),AV.int .i64 (60:Int),AV.int .i64 (90:Int)]] (some 1),.nilslice]]:=FlatR.cons (by simp only[a0h,a77,a26,List.append_nil];rfl) FlatR.nil;have hPr:=a0d hPF;have hPn:=λπ=>a08 π hPF;simp only[List.flatMap_cons,List.flatMap_nil,List.append_nil]at hPr;refine a0n (σ:=Unit) kp4_0 (λ_=>[(5,.ptr 0 0 0),(7,.ptr 1 0 0),(8,.nilslice),(9,.nilslice),(10,.int .i64 0),(11,.int .i64 0)]) (λ_=>[some (.row 2 [[sl zr (zs.map u8R),.int .u8 what]]),some (.row 4 [[sl c.nc (c.nodes.map Nd.enc),sl c.mc (c.names.map a39),.nilslice,sl c.oc (c.outs.map a11)]])]) (λ_=>0) (λ_=>True) () ?_ trivial ?_
   ·(simp+decide only[go_sem,a02,a00]<;>rfl)<;>rfl
   ·intro _ _;rcases hb4 with hb|hb|hb|hb
    ·rw[hb]at w2
     (repeat first|simp only[ww]|(apply xa;simp+decide only[go_sem,w2,hb,hcm,hck,List.length_map,beq_self_eq_true,Bool.true_and,Bool.not_true,Bool.and_self];rfl;kernel_rfl))
     refine a0n (σ:=Unit) kp4_5 (λ_=>[(7,.ptr 0 0 0),(8,.nilslice),(9,.nilslice),(16,.ptr 1 0 0),(18,.int .i64 0)]) (λ_=>[some (.row 4 [[sl c.nc (c.nodes.map Nd.enc),sl c.mc (c.names.map a39),.nilslice,sl c.oc (c.outs.map a11)]]),some (.row 3 [[AV.islice ((sgs k m).map Sgn.row) (some (k+m)),AV.islice [[AV.str [116],AV.int .i64 (100:Int),AV.int .i64 (0:Int),AV.int .i64 (30:Int),AV.int .i64 (60:Int),AV.int .i64 (90:Int)]] (some 1),.nilslice]])]) (λ_=>0) (λ_=>True) () ?_ trivial ?_
     ·(simp+decide only[go_sem,a02,a00,hPr,hPn]<;>rfl)<;>rfl
     ·intro _ _
      (repeat first|simp only[ww]|(apply xa;simp+decide only[go_sem,hlv];rfl;kernel_rfl))
      refine a4w (vs:=[.bool true]) (r:=(_,_)) (by simp+decide only[go_sem]) ?_ rfl;simp+decide only[go_sem,a1e]<;>rfl
    ·rw[hb]at w2;have hft:=b8z c hc ht none (some none) [] [((none,[]):Rep×List Nat)] (by simp) (by simp);have hYx:=λ(K:a03)=>(show a1u 0 false (a2i (a01 (some (.row 2 [[sl zr (zs.map u8R),.int .u8 what]])::some (.row 4 [[sl c.nc (c.nodes.map Nd.enc),sl c.mc (c.names.map a39),.nilslice,sl c.oc (c.outs.map a11)]])::some (.row 1 [[.nilslice]])::some (.row 1 [[.nilslice]])::K)) 0 12) (.slice 3 0 1 none)=some (sl (some none) ([((none,[]):Rep×List Nat)].map vlR)) by
      rw[a24];simp+decide only[go_sem,a5y,a07,List.drop_zero,List.take_succ_cons,List.take_zero,List.length_cons,List.length_nil];rfl)
     have hcx:=λ(d:Bool) (K:a03)=>a41 (d:=d) c hc ht none (some none) [] _ (X:=.nilslice) (by decide) rfl (hYx K) hft;simp only[Cir.enc]at hcx
     (repeat first|simp only[ww]|(apply xa;simp+decide only[go_sem,w2,hb,hcx,hlv];rfl;kernel_rfl))
     refine a4w (vs:=[.bool true]) (r:=(_,_)) (by simp+decide only[go_sem]) ?_ rfl;simp+decide only[go_sem,a1e]<;>rfl
    ·rw[hb]at w2
     (repeat first|simp only[ww]|(apply xa;simp+decide only[go_sem,w2,hb,hcm,hck,List.length_map,beq_self_eq_true,Bool.true_and,Bool.not_true,Bool.and_self];rfl;kernel_rfl))
     refine a0n (σ:=Unit) kp4_5 (λ_=>[(7,.ptr 0 0 0),(8,.nilslice),(9,.nilslice),(16,.ptr 1 0 0),(18,.int .i64 0)]) (λ_=>[some (.row 4 [[sl c.nc (c.nodes.map Nd.enc),sl c.mc (c.names.map a39),.nilslice,sl c.oc (c.outs.map a11)]]),some (.row 3 [[AV.islice ((sgs k m).map Sgn.row) (some (k+m)),AV.islice [[AV.str [116],AV.int .i64 (100:Int),AV.int .i64 (0:Int),AV.int .i64 (30:Int),AV.int .i64 (60:Int),AV.int .i64 (90:Int)]] (some 1),.nilslice]])]) (λ_=>0) (λ_=>True) () ?_ trivial ?_
     ·(simp+decide only[go_sem,a02,a00,hPr,hPn]<;>rfl)<;>rfl
     ·intro _ _
      (repeat first|simp only[ww]|(apply xa;simp+decide only[go_sem,hlv];rfl;kernel_rfl))
      refine a4w (vs:=[.bool true]) (r:=(_,_)) (by simp+decide only[go_sem]) ?_ rfl;simp+decide only[go_sem,a1e]<;>rfl
    ·rw[hb]at w2
     (repeat first|simp only[ww]|(apply xa;simp+decide only[go_sem,w2,hb,hcm,hck,List.length_map,beq_self_eq_true,Bool.true_and,Bool.not_true,Bool.and_self];rfl;kernel_rfl))
     refine a0n (σ:=Unit) kp4_5 (λ_=>[(7,.ptr 0 0 0),(8,.nilslice),(9,.nilslice),(16,.ptr 1 0 0),(18,.int .i64 0)]) (λ_=>[some (.row 4 [[sl c.nc (c.nodes.map Nd.enc),sl c.mc (c.names.map a39),.nilslice,sl c.oc (c.outs.map a11)]]),some (.row 3 [[AV.islice ((sgs k m).map Sgn.row) (some (k+m)),AV.islice [[AV.str [116],AV.int .i64 (100:Int),AV.int .i64 (0:Int),AV.int .i64 (30:Int),AV.int .i64 (60:Int),AV.int .i64 (90:Int)]] (some 1),.nilslice]])]) (λ_=>0) (λ_=>True) () ?_ trivial ?_
     ·(simp+decide only[go_sem,a02,a00,hPr,hPn]<;>rfl)<;>rfl
     ·intro _ _
      (repeat first|simp only[ww]|(apply xa;simp+decide only[go_sem,hlv];rfl;kernel_rfl))
      refine a4w (vs:=[.bool true]) (r:=(_,_)) (by simp+decide only[go_sem]) ?_ rfl;simp+decide only[go_sem,a1e]<;>rfl
  ·(refine svE Tryz.f4 ?_;simp only[Tryz.f4,gS])
   (repeat first|simp only[ww]|(apply xa;simp+decide only[go_sem,hlo,d0,hin,List.length_map,List.length_cons,List.length_nil];rfl;kernel_rfl))
   have hinr:=a0d (a8m qs);have hinn:=λπ=>a08 π (a8m qs);have hql:qs.length≤8:=by omega
   have hq0:0<qs.length:=List.length_pos_iff.2 hne;obtain⟨R,hR⟩:∃R,qs.map inR=R:=⟨_,rfl⟩
   have hRl:R.length=qs.length:=by rw[←hR,List.length_map]
   have hRf:=a8m qs;rw[hR]at hinr hinn hRf;have hZf:FlatR [[sl zr (zs.map u8R),.int .u8 what]]:=FlatR.cons (by simp only[go_sem]) FlatR.nil;have hCf:FlatR [[sl c.nc (c.nodes.map Nd.enc),sl c.mc (c.names.map a39),.nilslice,sl c.oc (c.outs.map a11)]]:=FlatR.cons (a4r c) FlatR.nil;refine a9b kp4_0 (λN F H=>∃i:Nat,N=qs.length-i∧i≤qs.length∧((i=0∧F=[(5,.ptr 0 0 0),(7,.ptr 1 0 0),(8,.slice 2 0 qs.length none),(9,.nilslice),(10,.int .i64 0),(11,.int .i64 0)]∧H=[some (.row 2 [[sl zr (zs.map u8R),.int .u8 what]]),some (.row 4 [[sl c.nc (c.nodes.map Nd.enc),sl c.mc (c.names.map a39),.nilslice,sl c.oc (c.outs.map a11)]]),some (.row 1 R)])∨
    (1≤i∧F=[(5,.ptr 0 0 0),(7,.ptr 1 0 0),(8,.slice 2 0 qs.length none),(9,.slice 3 0 i none),(10,.int .i64 (i*m:Nat)),(11,.int .i64 i)]∧H=[some (.row 2 [[sl zr (zs.map u8R),.int .u8 what]]),some (.row 4 [[sl c.nc (c.nodes.map Nd.enc),sl c.mc (c.names.map a39),.nilslice,sl c.oc (c.outs.map a11)]]),some (.row 1 R),some (.row 1 ([.slice 4 0 m none]::a9c zs m i)),some (.row 1 ((wrT zs m 0 m).map u8R))]))) qs.length ?_ ?_
   ·refine⟨_,[some (.row 2 [[sl zr (zs.map u8R),.int .u8 what]]),some (.row 4 [[sl c.nc (c.nodes.map Nd.enc),sl c.mc (c.names.map a39),.nilslice,sl c.oc (c.outs.map a11)]]),some (.row 1 R)],?_,0,rfl,Nat.zero_le _,.inl ⟨rfl,rfl,rfl⟩⟩;rw[hR]
    (simp+decide only[go_sem,a02,a00,hinr,hinn]<;>rfl)<;>rfl
   ·rintro N F H ⟨i,rfl,hi,h0⟩
    by_cases hlt:i<qs.length
    ·have c1:(i:Int)<qs.length:=by omega
     have hwi:=wI1 (n:=i) (by omega);have him:i*m≤7*4:=Nat.mul_le_mul (by omega) hm4;rcases h0 with ⟨rfl,rfl,rfl⟩|⟨hi1,rfl,rfl⟩
     ·have c0:(0:Int)<qs.length:=by omega
      (repeat first|simp only[ww]|(apply xa;simp+decide only[go_sem,c0,hRl];rfl;kernel_rfl))
      refine b4w kp4_2 rfl 5 rfl (σ:=Nat) (λq=>[(5,.ptr 0 0 0),(7,.ptr 1 0 0),(8,.slice 2 0 qs.length none),(9,.nilslice),(10,.int .i64 (q:Nat)),(11,.int .i64 0),(12,grV 3 ((wrT zs m 0 q).map u8R)),(13,.int .i64 q),(1000005,.junk)]) (λq=>[some (.row 2 [[sl zr (zs.map u8R),.int .u8 what]]),some (.row 4 [[sl c.nc (c.nodes.map Nd.enc),sl c.mc (c.names.map a39),.nilslice,sl c.oc (c.outs.map a11)]]),some (.row 1 R)]++grH 1 ((wrT zs m 0 q).map u8R)) (λq=>m-q) (λq=>q≤m) 0 ?_ (Nat.zero_le _) ?_
      ·have e:wrT zs m 0 0=[]:=rfl;rw[e,List.map_nil,a0x,a0y]
       (simp+decide only[go_sem,a02,a00,hinr,hinn]<;>rfl)<;>rfl
      ·intro q hq;have hwl:=a70 zs m 0 q;have hws:=d2a zs m 0 q;rw[Nat.zero_mul,Nat.zero_add]at hws;by_cases hqm:q<m
       ·have c2:(q:Int)<m:=by omega
        have hwq:=wI1 (n:=q) (by omega);have hwa:=wI1 (n:=q) (by omega);have hur:∀v,u8R v=[.int .u8 v]:=λ_=>rfl;by_cases hz:zs=[]
        ·have hzv:zvl zs q=2:=by unfold zvl;rw[if_pos hz]
         have hz0:((zs.length:Nat):Int)=0:=by rw[hz];rfl
         rw[hzv]at hws;cases hL:wrT zs m 0 q with
         |nil=>
          rw[hL]at hws;simp only[List.map_nil,a0x,a0y]
          (repeat first|simp only[ww]|(apply xa;simp+decide only[go_sem,c2,hout,hz0,hwq,hwa,List.length_map];rfl;kernel_rfl))
          refine a1p (q+1) ?_ (by omega) (by omega);rw[hws]
          (simp+decide only[go_sem,a02,a00,hinr,hinn,List.nil_append,List.map_cons,List.map_nil,a0b,a0c,List.length_nil,hur]<;>rfl)<;>rfl
         |cons a r=>
          rw[hL]at hws hwl;simp only[List.length_cons]at hwl;have hrr:=a95 r;have hrn:=λπ=>b58 π r;have hrm:r.length+1+1≤1000000000:=by omega
          simp only[List.map_cons,a0b,a0c,List.length_map]
          (repeat first|simp only[ww]|(apply xa;simp+decide only[go_sem,c2,hout,hz0,hwq,hwa,hrm,List.length_map,List.length_cons];rfl;kernel_rfl))
          refine a1p (q+1) ?_ (by omega) (by omega);rw[hws]
          (simp+decide only[go_sem,a02,a00,hinr,hinn,List.cons_append,List.map_append,List.map_cons,List.map_nil,a0b,a0c,List.length_append,List.length_cons,List.length_nil,List.length_map,hrr,hrn,hur,List.flatMap_append,List.flatMap_cons,List.flatMap_nil]<;>rfl)<;>rfl
        ·have hl0:0<zs.length:=List.length_pos_iff.2 hz;have hz0:(0:Int)<zs.length:=by omega
         have cl:¬(zs.length:Int)=0:=by omega
         have hml:=Nat.mod_lt q hl0;obtain⟨u,hu⟩:∃u,zs[q%zs.length]?=some u:=⟨_,z9e hml⟩
         have hub:=hzs u (List.mem_of_getElem? hu);have w1:=wI (n:=q%zs.length) (by omega);have w2:=wB (n:=u%4) (by omega);have hzv:zvl zs q=u%4:=by unfold zvl;rw[if_neg hz,List.getD_eq_getElem?_getD,hu];rfl
         rw[hzv]at hws;cases hL:wrT zs m 0 q with
         |nil=>
          rw[hL]at hws;simp only[List.map_nil,a0x,a0y]
          (repeat first|simp only[ww]|(apply xa;simp+decide only[go_sem,c2,hout,hz0,cl,hml,hu,w1,w2,hwq,hwa,hur,List.length_map];rfl;kernel_rfl))
          refine a1p (q+1) ?_ (by omega) (by omega);rw[hws]
          (simp+decide only[go_sem,a02,a00,hinr,hinn,List.nil_append,List.map_cons,List.map_nil,a0b,a0c,List.length_nil,hur]<;>rfl)<;>rfl
         |cons a r=>
          rw[hL]at hws hwl;simp only[List.length_cons]at hwl;have hrr:=a95 r;have hrn:=λπ=>b58 π r;have hrm:r.length+1+1≤1000000000:=by omega
          simp only[List.map_cons,a0b,a0c,List.length_map]
          (repeat first|simp only[ww]|(apply xa;simp+decide only[go_sem,c2,hout,hz0,cl,hml,hu,w1,w2,hwq,hwa,hur,hrm,List.length_map,List.length_cons];rfl;kernel_rfl))
          refine a1p (q+1) ?_ (by omega) (by omega);rw[hws]
          (simp+decide only[go_sem,a02,a00,hinr,hinn,List.cons_append,List.map_append,List.map_cons,List.map_nil,a0b,a0c,List.length_append,List.length_cons,List.length_nil,List.length_map,hrr,hrn,hur,List.flatMap_append,List.flatMap_cons,List.flatMap_nil]<;>rfl)<;>rfl
       ·have hqe:q=m:=by omega
        have c2:¬(m:Int)<m:=by omega
        obtain⟨W0,hW0⟩:∃W0,(wrT zs m 0 m).map u8R=W0:=⟨_,rfl⟩
        have h0f:=b5y (wrT zs m 0 m);have h0l:W0.length=m:=by rw[←hW0,List.length_map,a70]
        have h0e:W0≠[]:=by intro e;rw[e]at h0l;simp at h0l;omega
        rw[hW0]at h0f;have h0r:=a0d h0f;have h0n:=λπ=>a08 π h0f;rw[hqe,hW0,a4s 3 h0e,a4t 1 h0e,h0l];simp only[List.cons_append,List.nil_append];have hH:b5w 5 [some (.row 2 [[sl zr (zs.map u8R),.int .u8 what]]),some (.row 4 [[sl c.nc (c.nodes.map Nd.enc),sl c.mc (c.names.map a39),.nilslice,sl c.oc (c.outs.map a11)]]),some (.row 1 R),some (.row 1 W0)]=[some (.row 2 [[sl zr (zs.map u8R),.int .u8 what]]),some (.row 4 [[sl c.nc (c.nodes.map Nd.enc),sl c.mc (c.names.map a39),.nilslice,sl c.oc (c.outs.map a11)]]),some (.row 1 R),some (.row 1 W0)]:=by unfold b5w;simp only[List.take_succ_cons,List.take_nil,List.map_cons,List.map_nil,Option.map_some,b1r,a2o hZf,a2o hCf,a2o hRf,a2o h0f]
        (repeat first|simp only[ww]|(apply xa;simp+decide only[go_sem,c2,hout,List.length_map,hH];rfl;kernel_rfl))
        refine a40 (qs.length-1) (by omega) ⟨[(5,.ptr 0 0 0),(7,.ptr 1 0 0),(8,.slice 2 0 qs.length none),(9,.slice 3 0 1 none),(10,.int .i64 (m:Nat)),(11,.int .i64 (1:Nat))],[some (.row 2 [[sl zr (zs.map u8R),.int .u8 what]]),some (.row 4 [[sl c.nc (c.nodes.map Nd.enc),sl c.mc (c.names.map a39),.nilslice,sl c.oc (c.outs.map a11)]]),some (.row 1 R),some (.row 1 [[.slice 4 0 m none]]),some (.row 1 W0)],?_,1,rfl,by omega,.inr ⟨by omega,by rw[Nat.one_mul],by rfl⟩⟩
        (simp+decide only[go_sem,a02,a00,hinr,hinn,h0r,h0n]<;>rfl)<;>rfl
     ·obtain⟨WR,hWR⟩:∃WR,a9c zs m i=WR:=⟨_,rfl⟩
      obtain⟨W0,hW0⟩:∃W0,(wrT zs m 0 m).map u8R=W0:=⟨_,rfl⟩
      have hwf:=b1y zs m i;have h0f:=b5y (wrT zs m 0 m);rw[hWR]at hwf;rw[hW0]at h0f;have hwr:=a0d hwf;have hwn:=λπ=>a08 π hwf;have h0r:=a0d h0f;have h0n:=λπ=>a08 π h0f;rw[hWR,hW0]
      (repeat first|simp only[ww]|(apply xa;simp+decide only[go_sem,c1,hRl];rfl;kernel_rfl))
      refine b4w kp4_2 rfl 5 rfl (σ:=Nat) (λq=>[(5,.ptr 0 0 0),(7,.ptr 1 0 0),(8,.slice 2 0 qs.length none),(9,.slice 3 0 i none),(10,.int .i64 ((i*m+q):Nat)),(11,.int .i64 (i:Nat)),(12,grV 5 ((wrT zs m i q).map u8R)),(13,.int .i64 q),(1000005,.junk)]) (λq=>[some (.row 2 [[sl zr (zs.map u8R),.int .u8 what]]),some (.row 4 [[sl c.nc (c.nodes.map Nd.enc),sl c.mc (c.names.map a39),.nilslice,sl c.oc (c.outs.map a11)]]),some (.row 1 R),some (.row 1 ([.slice 4 0 m none]::WR)),some (.row 1 W0)]++grH 1 ((wrT zs m i q).map u8R)) (λq=>m-q) (λq=>q≤m) 0 ?_ (Nat.zero_le _) ?_
      ·have e:wrT zs m i 0=[]:=rfl;rw[e,List.map_nil,a0x,a0y,Nat.add_zero]
       (simp+decide only[go_sem,a02,a00,hinr,hinn,hwr,hwn,h0r,h0n]<;>rfl)<;>rfl
      ·intro q hq;have hwl:=a70 zs m i q;have hws:=d2a zs m i q;by_cases hqm:q<m
       ·have c2:(q:Int)<m:=by omega
        have hwq:=wI1 (n:=q) (by omega);have hwa:=wI1 (n:=(i*m+q)) (by omega);have hea:i*m+q+1=i*m+(q+1):=by omega
        rw[hea]at hwa;have hur:∀v,u8R v=[.int .u8 v]:=λ_=>rfl;by_cases hz:zs=[]
        ·have hzv:zvl zs (i*m+q)=2:=by unfold zvl;rw[if_pos hz]
         have hz0:((zs.length:Nat):Int)=0:=by rw[hz];rfl
         rw[hzv]at hws;cases hL:wrT zs m i q with
         |nil=>
          rw[hL]at hws;simp only[List.map_nil,a0x,a0y]
          (repeat first|simp only[ww]|(apply xa;simp+decide only[go_sem,c2,hout,hz0,hwq,hwa,List.length_map];rfl;kernel_rfl))
          refine a1p (q+1) ?_ (by omega) (by omega);rw[hws]
          (simp+decide only[go_sem,a02,a00,hinr,hinn,hwr,hwn,h0r,h0n,List.nil_append,List.map_cons,List.map_nil,a0b,a0c,List.length_nil,hur]<;>rfl)<;>rfl
         |cons a r=>
          rw[hL]at hws hwl;simp only[List.length_cons]at hwl;have hrr:=a95 r;have hrn:=λπ=>b58 π r;have hrm:r.length+1+1≤1000000000:=by omega
          simp only[List.map_cons,a0b,a0c,List.length_map]
          (repeat first|simp only[ww]|(apply xa;simp+decide only[go_sem,c2,hout,hz0,hwq,hwa,hrm,List.length_map,List.length_cons];rfl;kernel_rfl))
          refine a1p (q+1) ?_ (by omega) (by omega);rw[hws]
          (simp+decide only[go_sem,a02,a00,hinr,hinn,hwr,hwn,h0r,h0n,List.cons_append,List.map_append,List.map_cons,List.map_nil,a0b,a0c,List.length_append,List.length_cons,List.length_nil,List.length_map,hrr,hrn,hur,List.flatMap_append,List.flatMap_cons,List.flatMap_nil]<;>rfl)<;>rfl
        ·have hl0:0<zs.length:=List.length_pos_iff.2 hz;have hz0:(0:Int)<zs.length:=by omega
         have cl:¬(zs.length:Int)=0:=by omega
         have hml:=Nat.mod_lt (i*m+q) hl0;obtain⟨u,hu⟩:∃u,zs[(i*m+q)%zs.length]?=some u:=⟨_,z9e hml⟩
         have hub:=hzs u (List.mem_of_getElem? hu);have w1:=wI (n:=(i*m+q)%zs.length) (by omega);have w2:=wB (n:=u%4) (by omega);have hzv:zvl zs (i*m+q)=u%4:=by unfold zvl;rw[if_neg hz,List.getD_eq_getElem?_getD,hu];rfl
         rw[hzv]at hws;cases hL:wrT zs m i q with
         |nil=>
          rw[hL]at hws;simp only[List.map_nil,a0x,a0y]
          (repeat first|simp only[ww]|(apply xa;simp+decide only[go_sem,c2,hout,hz0,cl,hml,hu,w1,w2,hwq,hwa,hur,List.length_map];rfl;kernel_rfl))
          refine a1p (q+1) ?_ (by omega) (by omega);rw[hws]
          (simp+decide only[go_sem,a02,a00,hinr,hinn,hwr,hwn,h0r,h0n,List.nil_append,List.map_cons,List.map_nil,a0b,a0c,List.length_nil,hur]<;>rfl)<;>rfl
         |cons a r=>
          rw[hL]at hws hwl;simp only[List.length_cons]at hwl;have hrr:=a95 r;have hrn:=λπ=>b58 π r;have hrm:r.length+1+1≤1000000000:=by omega
          simp only[List.map_cons,a0b,a0c,List.length_map]
          (repeat first|simp only[ww]|(apply xa;simp+decide only[go_sem,c2,hout,hz0,cl,hml,hu,w1,w2,hwq,hwa,hur,hrm,List.length_map,List.length_cons];rfl;kernel_rfl))
          refine a1p (q+1) ?_ (by omega) (by omega);rw[hws]
          (simp+decide only[go_sem,a02,a00,hinr,hinn,hwr,hwn,h0r,h0n,List.cons_append,List.map_append,List.map_cons,List.map_nil,a0b,a0c,List.length_append,List.length_cons,List.length_nil,List.length_map,hrr,hrn,hur,List.flatMap_append,List.flatMap_cons,List.flatMap_nil]<;>rfl)<;>rfl
       ·have hqe:q=m:=by omega
        have c2:¬(m:Int)<m:=by omega
        obtain⟨Wi,hWi⟩:∃Wi,(wrT zs m i m).map u8R=Wi:=⟨_,rfl⟩
        have hif:=b5y (wrT zs m i m);have hil:Wi.length=m:=by rw[←hWi,List.length_map,a70]
        have hie:Wi≠[]:=by intro e;rw[e]at hil;simp at hil;omega
        rw[hWi]at hif;have hir:=a0d hif;have hin2:=λπ=>a08 π hif;have hifz:=λm d=>a0s (m:=m) (d:=d) hif;have hitk:Wi.take m=Wi:=List.take_of_length_le (by omega);have hws2:=c89 zs m i hi1;rw[hWR,hWi,a87 hie]at hws2;have hwl2:WR.length=i-1:=by rw[←hWR,b4y]
        have hwl3:([AV.slice 4 0 m none]::WR).length=i:=by simp only[List.length_cons];omega
        have hwtk:([AV.slice 4 0 m none]::WR).take i=[AV.slice 4 0 m none]::WR:=List.take_of_length_le (by omega);have hgr:i+1≤1000000000:=by omega
        rw[hqe,hWi,a4s 5 hie,a4t 1 hie,hil];simp only[List.cons_append,List.nil_append]
        (repeat first|simp only[ww]|(apply xa;simp+decide only[go_sem,c2,hout,List.length_map];rfl;kernel_rfl))
        rw[d83];have hWT:∀d,b46 5 d ([.slice 4 0 m none]::WR)=some ([.slice 4 0 m none]::WR):=λd=>by simp+decide only[go_sem,a2o hwf,a07]
        have hH:b5w 5 [some (.row 2 [[sl zr (zs.map u8R),.int .u8 what]]),some (.row 4 [[sl c.nc (c.nodes.map Nd.enc),sl c.mc (c.names.map a39),.nilslice,sl c.oc (c.outs.map a11)]]),some (.row 1 R),some (.row 1 ([.slice 4 0 m none]::WR)),some (.row 1 W0),some (.row 1 Wi)]=[some (.row 2 [[sl zr (zs.map u8R),.int .u8 what]]),some (.row 4 [[sl c.nc (c.nodes.map Nd.enc),sl c.mc (c.names.map a39),.nilslice,sl c.oc (c.outs.map a11)]]),some (.row 1 R),some (.row 1 ([.slice 4 0 m none]::WR)),some (.row 1 W0)]:=by unfold b5w;simp only[List.take_succ_cons,List.take_zero,List.map_cons,List.map_nil,Option.map_some,b1r,a2o hZf,a2o hCf,a2o hRf,a2o h0f,hWT]
        simp only[List.length_nil,Nat.zero_add,hH];simp+decide only[go_sem,hifz,hitk,hil]
        (repeat first|simp only[ww]|(apply xa;simp+decide only[go_sem,hwl3,hwtk,hgr,hwi];rfl;kernel_rfl))
        refine a40 (qs.length-(i+1)) (by omega) ⟨[(5,.ptr 0 0 0),(7,.ptr 1 0 0),(8,.slice 2 0 qs.length none),(9,.slice 3 0 (i+1) none),(10,.int .i64 (i*m+m:Nat)),(11,.int .i64 (i+1:Nat))],[some (.row 2 [[sl zr (zs.map u8R),.int .u8 what]]),some (.row 4 [[sl c.nc (c.nodes.map Nd.enc),sl c.mc (c.names.map a39),.nilslice,sl c.oc (c.outs.map a11)]]),some (.row 1 R),some (.row 1 ([.slice 4 0 m none]::(WR++[[.islice Wi none]]))),some (.row 1 W0)],?_,i+1,rfl,by omega,.inr ⟨by omega,by rw[Nat.succ_mul],by rw[hws2]⟩⟩
        (simp+decide only[go_sem,a02,a00,hinr,hinn,hwr,hwn,h0r,h0n,hir,hin2,List.cons_append,List.map_append,List.map_cons,List.map_nil,List.flatMap_append,List.flatMap_cons,List.flatMap_nil]<;>rfl)<;>rfl
    ·have hie:i=qs.length:=by omega
     subst hie;have c1:¬(qs.length:Int)<qs.length:=by omega
     rcases h0 with ⟨h00,-,-⟩|⟨hi1,rfl,rfl⟩
     ·omega
     obtain⟨A,hAd⟩:∃A:List (Rep×List Nat),A=qs.map λq=>(q.ic,q.ins):=⟨_,rfl⟩
     have hAl:A.length=qs.length:=by rw[hAd,List.length_map]
     have hAq:R=A.map vlR:=by rw[←hR,hAd,List.map_map];rfl
     have hA:∀a∈A,a.2.length=k∧∀v∈a.2,v≤3:=λa ha=>by rw[hAd]at ha;obtain⟨q,hq,rfl⟩:=List.mem_map.1 ha;have:=hq2 q hq;exact⟨by rw[←hkl];exact this.1,this.3⟩
     have hBl:=c8a zs m qs.length;have hB:∀b∈wBl zs m qs.length,b.2.length=m∧∀v∈b.2,v≤3:=λb hb=>by obtain⟨j,_,rfl⟩:=List.mem_map.1 hb;exact⟨a70 _ _ _ _,d2b _ _ _ _⟩
     have hBv:[AV.islice ((wrT zs m 0 m).map u8R) none]::a9c zs m qs.length=(wBl zs m qs.length).map vlR:=by
      obtain⟨n',hn'⟩:∃n',qs.length=n'+1:=⟨qs.length-1,by omega⟩
      rw[hn'];exact d2c zs m n' hm1
     have hwf:=b1y zs m qs.length;have h0f:=b5y (wrT zs m 0 m);have h0l:((wrT zs m 0 m).map u8R).length=m:=by rw[List.length_map,a70]
     have hB0:∀b,(wBl zs m qs.length)[0]?=some b→b=(some none,wrT zs m 0 m):=λb hb=>by unfold wBl at hb;rw[List.getElem?_map,List.getElem?_range (by omega)]at hb;exact(z9o hb).symm
     obtain⟨w0,hw0⟩:∃w0,wrT zs m 0 m=w0:=⟨_,rfl⟩
     rw[hw0]at hBv h0f h0l hB0⊢;have hwl:=b4y zs m qs.length;generalize a9c zs m qs.length=WR at *;obtain⟨W0,hW0⟩:∃W0,w0.map u8R=W0:=⟨_,rfl⟩
     rw[hW0]at hBv h0f h0l⊢;generalize wBl zs m qs.length=B at *;have hwl3:([AV.slice 4 0 m none]::WR).length=qs.length:=by simp only[List.length_cons];omega
     have hwtk:([AV.slice 4 0 m none]::WR).take qs.length=[AV.slice 4 0 m none]::WR:=List.take_of_length_le (by omega);have hRtk:R.take qs.length=R:=List.take_of_length_le (by omega);have hitk:W0.take m=W0:=List.take_of_length_le (by omega);have hwr:=a0d hwf;have hwn:=λπ=>a08 π hwf;have h0r:=a0d h0f;have h0n:=λπ=>a08 π h0f;have hRz:=λm d=>a0s (m:=m) (d:=d) hRf;have hwz:=λm d=>a0s (m:=m) (d:=d) hwf;have h0z:=λm d=>a0s (m:=m) (d:=d) h0f;have hX:=λ(K:a03)=>(show a1u 0 false (a2i (a01 (some (.row 2 [[sl zr (zs.map u8R),.int .u8 what]])::some (.row 4 [[sl c.nc (c.nodes.map Nd.enc),sl c.mc (c.names.map a39),.nilslice,sl c.oc (c.outs.map a11)]])::some (.row 1 R)::some (.row 1 ([.slice 4 0 m none]::WR))::some (.row 1 W0)::K)) 0 12) (.slice 2 0 qs.length none)=some (sl (some none) (A.map vlR)) by rw[←hAq,a24];simp+decide only[go_sem,a5y,a07,hRl,hRtk,hRz])
     have hY:=λ(K:a03)=>(show a1u 0 false (a2i (a01 (some (.row 2 [[sl zr (zs.map u8R),.int .u8 what]])::some (.row 4 [[sl c.nc (c.nodes.map Nd.enc),sl c.mc (c.names.map a39),.nilslice,sl c.oc (c.outs.map a11)]])::some (.row 1 R)::some (.row 1 ([.slice 4 0 m none]::WR))::some (.row 1 W0)::K)) 0 12) (.slice 3 0 qs.length none)=some (sl (some none) (B.map vlR)) by rw[←hBv,a24];simp+decide only[go_sem,a5y,a07,hwl3,hwtk,hwz,h0l,hitk,h0z])
     have hcm:=λ(d:Bool) (K:a03)=>a7v (d:=d) c hc ht (some none) (some none) A B (by omega) (by omega) hA hB (hX K) (hY K);have w2:=wB (n:=what%4) (by omega);have hb4:what%4=0∨what%4=1∨what%4=2∨what%4=3:=by omega
     have hvl:(a60 A B).length=qs.length:=(b92 (by omega)).trans hAl;have hvo:∀s∈a60 A B,VecOk (sgs k m) s:=λs hs=>by
      obtain⟨j,hj⟩:=List.getElem?_of_mem hs;have hjl:j<(a60 A B).length:=(List.getElem?_eq_some_iff.1 hj).1;obtain⟨a,ha⟩:∃a,A[j]?=some a:=⟨_,z9e (by omega)⟩
      obtain⟨b,hb⟩:∃b,B[j]?=some b:=⟨_,z9e (by omega)⟩
      rw[b4c ha hb]at hj;cases hj;obtain⟨h1,h2⟩:=hA a (List.mem_of_getElem? ha);obtain⟨h3,h4⟩:=hB b (List.mem_of_getElem? hb);exact c8b h1 h3 h2 h4
     obtain⟨k1,k4⟩:1≤k∧k≤4:=⟨ht.k1,ht.k4⟩
     have hck:=λ(d:Bool) (H:a03)=>b31 (d:=d) k1 k4 hm1 hm4 (vs:=a60 A B) (by omega) hvo H;have hsl:=a3b k m;obtain⟨vr,hV2⟩:∃vr,b6j (a60 A B)=sl vr ((a60 A B).map vcR):=by
      cases a60 A B with
      |nil=>exact⟨none,rfl⟩
      |cons a r=>exact⟨some (some (r.length+1)),rfl⟩
     have hpr:b6g (sgs k m) (a60 A B)=[.islice ((sgs k m).map Sgn.row) (some (k+m)),.islice [tmR] (some 1),sl vr ((a60 A B).map vcR)]:=by unfold b6g;rw[hsl,hV2]
     rw[hpr]at hcm hck;simp only[Cir.enc,tmR]at hcm hck;rcases hb4 with hb|hb|hb|hb
     ·rw[hb]at w2
      (repeat first|simp only[ww]|(apply xa;simp+decide only[go_sem,c1,hRl,w2,hb,hcm,hck,hvl,List.length_map,beq_self_eq_true,Bool.true_and,Bool.not_true,Bool.and_self];rfl;kernel_rfl))
      obtain⟨SG,hSG⟩:∃SG,[AV.islice ((sgs k m).map Sgn.row) (some (k+m)),AV.islice [[AV.str [116],AV.int .i64 (100:Int),AV.int .i64 (0:Int),AV.int .i64 (30:Int),AV.int .i64 (60:Int),AV.int .i64 (90:Int)]] (some 1),sl vr ((a60 A B).map vcR)]=SG:=⟨_,rfl⟩
      have hPF:FlatR [SG]:=FlatR.cons (by rw[←hSG];simp only[a0h,a77,a1b,a26,List.append_nil]) FlatR.nil;have hPr:=a0d hPF;have hPn:=λπ=>a08 π hPF;simp only[List.flatMap_cons,List.flatMap_nil,List.append_nil]at hPr;rw[←hSG]at hPr hPn;refine a0n (σ:=Nat) kp4_5 (λi=>[(7,.ptr 0 0 0),(8,.slice 1 0 qs.length none),(9,.slice 2 0 qs.length none),(16,.ptr 4 0 0),(18,.int .i64 i)]) (λi=>[some (.row 4 [[sl c.nc (c.nodes.map Nd.enc),sl c.mc (c.names.map a39),.nilslice,sl c.oc (c.outs.map a11)]]),some (.row 1 R),some (.row 1 ([.slice 3 0 m none]::WR)),some (.row 1 W0),some (.row 3 [[AV.islice ((sgs k m).map Sgn.row) (some (k+m)),AV.islice [[AV.str [116],AV.int .i64 (100:Int),AV.int .i64 (0:Int),AV.int .i64 (30:Int),AV.int .i64 (60:Int),AV.int .i64 (90:Int)]] (some 1),sl vr ((a60 A B).map vcR)]])]) (λi=>qs.length-i) (λi=>i≤qs.length) 0 ?_ (Nat.zero_le _) ?_
      ·(simp+decide only[go_sem,a02,a00,hinr,hinn,hwr,hwn,h0r,h0n,hPr,hPn]<;>rfl)<;>rfl
      ·intro i hi;by_cases hlt:i<qs.length
       ·have d1:(i:Int)<qs.length:=by omega
        have hwi:=wI1 (n:=i) (by omega);obtain⟨a,ha⟩:∃a,A[i]?=some a:=⟨_,z9e (by omega)⟩
        obtain⟨b,hb⟩:∃b,B[i]?=some b:=⟨_,z9e (by omega)⟩
        obtain⟨a1,a2⟩:=hA a (List.mem_of_getElem? ha);obtain⟨b1,b2⟩:=hB b (List.mem_of_getElem? hb);have hvg:(a60 A B)[i]?=some (cyc a.2 b.2):=b4c ha hb;have hcl:(cyc a.2 b.2).length=k+m:=by unfold cyc;rw[List.length_append,List.length_map,List.length_map,a1,b1]
        have hvc:∀s,vcR s=[.int .i64 0,.str s,.int .i64 1]:=λs=>rfl;have hww:=w64 (n:=(k:Int)+m) (by omega) (by omega);have hcc:((k+m:Nat):Int)=(k:Int)+m:=by omega
        have hRi:R[i]?=some [sl a.1 (a.2.map u8R)]:=by rw[hAq,List.getElem?_map,ha];rfl
        (repeat first|simp only[ww]|(apply xa;simp+decide only[go_sem,d1,hlt,hRl,hRi,hvg,hvc,hcl,a1,hout,hww,hcc,hvl,List.length_map];rfl;kernel_rfl))
        have hvcl:∀(q:Nat),q<k+m→∀v:Nat,v≤3→(q<k∧a.2[q]?=some v∨k≤q∧b.2[q-k]?=some v)→∃y,(cyc a.2 b.2)[q]?=some y∧(y=a5w 48 49 v∨y=a5w 76 72 v):=by
         intro q hq v hv h;unfold cyc;rcases h with ⟨h1,h2⟩|⟨h1,h2⟩
         ·exact⟨a5w 48 49 v,by rw[List.getElem?_append_left (by rw[List.length_map];omega),List.getElem?_map,h2];rfl,.inl rfl⟩
         ·exact⟨a5w 76 72 v,by rw[List.getElem?_append_right (by rw[List.length_map];omega),List.length_map,a1,List.getElem?_map,h2];rfl,.inr rfl⟩
        have hWi:∀(j v:Nat),b.2[j]?=some v→(i=0→W0[j]?=some [AV.int .u8 (v:Int)])∧(i≠0→([AV.slice 3 0 m none]::WR)[i]?=some [sl b.1 (b.2.map u8R)]):=by
         intro j v hv;refine⟨λh=>?_,λh=>?_⟩
         ·rw[h]at hb;rw[hB0 b hb]at hv;rw[←hW0,List.getElem?_map,hv];rfl
         ·obtain⟨i',rfl⟩:∃i',i=i'+1:=⟨i-1,by omega⟩
          have h1:([AV.islice W0 none]::WR)[i'+1]?=some [sl b.1 (b.2.map u8R)]:=by rw[hBv,List.getElem?_map,hb];rfl
          rw[List.getElem?_cons_succ]at h1⊢;exact h1
        have hW00:i=0→([AV.slice 3 0 m none]::WR)[i]?=some [AV.slice 3 0 m none]:=λh=>by rw[h];rfl
        obtain⟨WT,hWT⟩:∃WT,([AV.slice 3 0 m none]::WR)=WT:=⟨_,rfl⟩
        have hWTl:WT.length=qs.length:=by rw[←hWT];simp only[List.length_cons];omega
        generalize cyc a.2 b.2=S at hvg hcl hvcl⊢;refine a0n (σ:=Nat) kp4_7 (λq=>[(7,.ptr 0 0 0),(8,.slice 1 0 qs.length none),(9,.slice 2 0 qs.length none),(16,.ptr 4 0 0),(18,.int .i64 i),(19,.ptr 5 0 0),(20,.int .i64 q)]) (λq=>[some (.row 4 [[sl c.nc (c.nodes.map Nd.enc),sl c.mc (c.names.map a39),.nilslice,sl c.oc (c.outs.map a11)]]),some (.row 1 R),some (.row 1 ([.slice 3 0 m none]::WR)),some (.row 1 W0),some (.row 3 [[AV.islice ((sgs k m).map Sgn.row) (some (k+m)),AV.islice [[AV.str [116],AV.int .i64 (100:Int),AV.int .i64 (0:Int),AV.int .i64 (30:Int),AV.int .i64 (60:Int),AV.int .i64 (90:Int)]] (some 1),sl vr ((a60 A B).map vcR)]]),some (.row 3 [[.int .i64 0,.str S,.int .i64 1]])]) (λq=>(k+m)-q) (λq=>q≤k+m) 0 ?_ (Nat.zero_le _) ?_
        ·(simp+decide only[go_sem,a02,a00,hinr,hinn,hwr,hwn,h0r,h0n,hPr,hPn]<;>rfl)<;>rfl
        ·intro q hq;by_cases hqm:q<k+m
         ·have d3:(q:Int)<(k:Int)+m:=by omega
          have hwq:=wI1 (n:=q) (by omega);have hur:∀w,u8R w=[.int .u8 w]:=λw=>rfl;by_cases hqk:q<k
          ·have d4:(q:Int)<k:=by omega
           obtain⟨v,hv⟩:∃v,a.2[q]?=some v:=⟨_,z9e (by omega)⟩
           have hv3:=a2 v (List.mem_of_getElem? hv);obtain⟨y,hy,hyc⟩:=hvcl q hqm v hv3 (.inl ⟨hqk,hv⟩);have hce:=λ(d:Bool) (H:a03)=>b33 (d:=d) H v hv3 y hyc;by_cases h3:v=3
           ·have b3:(v:Int)=3:=by omega
            rw[h3,c86]at hce
            (repeat first|simp only[ww]|(apply xa;simp+decide only[go_sem,d3,hqm,d4,hlt,hRl,hRi,hcl,a1,hv,hur,hy,hce,hwq,List.length_map,hcc,hqk,b3];rfl;kernel_rfl))
            refine a1p (q+1) ?_ (by omega) (by omega)
            (simp+decide only[go_sem,a02,a00,hinr,hinn,hwr,hwn,h0r,h0n,hPr,hPn]<;>rfl)<;>rfl
           ·have b3:¬(v:Int)=3:=by omega
            rw[c18 hv3 h3]at hce
            (repeat first|simp only[ww]|(apply xa;simp+decide only[go_sem,d3,hqm,d4,hlt,hRl,hRi,hcl,a1,hv,hur,hy,hce,hwq,List.length_map,hcc,hqk,b3];rfl;kernel_rfl))
            refine a1p (q+1) ?_ (by omega) (by omega)
            (simp+decide only[go_sem,a02,a00,hinr,hinn,hwr,hwn,h0r,h0n,hPr,hPn]<;>rfl)<;>rfl
          ·have d4:¬(q:Int)<k:=by omega
           obtain⟨v,hv⟩:∃v,b.2[q-k]?=some v:=⟨_,z9e (by omega)⟩
           have hv3:=b2 v (List.mem_of_getElem? hv);obtain⟨y,hy,hyc⟩:=hvcl q hqm v hv3 (.inr ⟨by omega,hv⟩);have hce:=λ(d:Bool) (H:a03)=>b33 (d:=d) H v hv3 y hyc;have hwk:IntKind.i64.wrap ((q:Int)-k)=((q-k:Nat):Int):=by rw[w64 (by omega) (by omega)];omega
           have hqb:q-k<m:=by omega
           obtain⟨hw1,hw2⟩:=hWi (q-k) v hv;by_cases hi0:i=0
           ·have hw1:=hw1 hi0;have hw00:=hW00 hi0;rw[hWT]at hw00⊢;by_cases h3:v=3
            ·have b3:(v:Int)=3:=by omega
             rw[h3,c86]at hce
             (repeat first|simp only[ww]|(apply xa;simp+decide only[go_sem,d3,hqm,d4,hlt,hRl,hRi,hcl,a1,hv,hur,hy,hce,hwq,List.length_map,hcc,hwk,hqb,hw1,hw00,h0l,b1,hwl3,hWTl,b3];rfl;kernel_rfl))
             refine a1p (q+1) ?_ (by omega) (by omega);rw[←hWT]
             (simp+decide only[go_sem,a02,a00,hinr,hinn,hwr,hwn,h0r,h0n,hPr,hPn]<;>rfl)<;>rfl
            ·have b3:¬(v:Int)=3:=by omega
             rw[c18 hv3 h3]at hce
             (repeat first|simp only[ww]|(apply xa;simp+decide only[go_sem,d3,hqm,d4,hlt,hRl,hRi,hcl,a1,hv,hur,hy,hce,hwq,List.length_map,hcc,hwk,hqb,hw1,hw00,h0l,b1,hwl3,hWTl,b3];rfl;kernel_rfl))
             refine a1p (q+1) ?_ (by omega) (by omega);rw[←hWT]
             (simp+decide only[go_sem,a02,a00,hinr,hinn,hwr,hwn,h0r,h0n,hPr,hPn]<;>rfl)<;>rfl
           ·have hw2:=hw2 hi0;rw[hWT]at hw2⊢;by_cases h3:v=3
            ·have b3:(v:Int)=3:=by omega
             rw[h3,c86]at hce
             (repeat first|simp only[ww]|(apply xa;simp+decide only[go_sem,d3,hqm,d4,hlt,hRl,hRi,hcl,a1,hv,hur,hy,hce,hwq,List.length_map,hcc,hwk,hqb,hw2,b1,hwl3,hWTl,b3];rfl;kernel_rfl))
             refine a1p (q+1) ?_ (by omega) (by omega);rw[←hWT]
             (simp+decide only[go_sem,a02,a00,hinr,hinn,hwr,hwn,h0r,h0n,hPr,hPn]<;>rfl)<;>rfl
            ·have b3:¬(v:Int)=3:=by omega
             rw[c18 hv3 h3]at hce
             (repeat first|simp only[ww]|(apply xa;simp+decide only[go_sem,d3,hqm,d4,hlt,hRl,hRi,hcl,a1,hv,hur,hy,hce,hwq,List.length_map,hcc,hwk,hqb,hw2,b1,hwl3,hWTl,b3];rfl;kernel_rfl))
             refine a1p (q+1) ?_ (by omega) (by omega);rw[←hWT]
             (simp+decide only[go_sem,a02,a00,hinr,hinn,hwr,hwn,h0r,h0n,hPr,hPn]<;>rfl)<;>rfl
         ·obtain rfl:q=k+m:=by omega
          have d3:¬((k:Int)+m)<(k:Int)+m:=by omega
          have d3':¬(((k+m:Nat):Int))<(k:Int)+m:=by omega
          (repeat first|simp only[ww]|(apply xa;simp+decide only[go_sem,d3,d3',hcl,hcc,hwi,List.length_map];rfl;kernel_rfl))
          refine a1p (i+1) ?_ (by omega) (by omega)
          (simp+decide only[go_sem,a02,a00,hinr,hinn,hwr,hwn,h0r,h0n,hPr,hPn]<;>rfl)<;>rfl
       ·obtain rfl:i=qs.length:=by omega
        (repeat first|simp only[ww]|(apply xa;simp+decide only[go_sem,c1,hRl,hlv];rfl;kernel_rfl))
        refine a4w (vs:=[.bool true]) (r:=(_,_)) (by simp+decide only[go_sem]) ?_ rfl;simp+decide only[go_sem,a1e]<;>rfl
     ·rw[hb]at w2;have hgr:qs.length+1≤1000000000:=by omega
      have hnf:=hcm;have hft:=b8z c hc ht (some none) (some none) A (B++[(none,[])]) (by omega) (by rw[List.length_append,List.length_singleton];omega);have hwlx:([AV.slice 4 0 m none]::(WR++[[.nilslice]])).length=qs.length+1:=by simp only[List.length_cons,List.length_append,List.length_nil];omega
      have hwtx:([AV.slice 4 0 m none]::(WR++[[.nilslice]])).take (qs.length+1)=[AV.slice 4 0 m none]::(WR++[[.nilslice]]):=List.take_of_length_le (by omega);have hwfx:FlatR (WR++[[AV.nilslice]]):=FlatR.append hwf (FlatR.cons rfl FlatR.nil);have hwzx:=λm d=>a0s (m:=m) (d:=d) hwfx;have hBvx:[AV.islice W0 none]::(WR++[[AV.nilslice]])=(B++[((none,[]):Rep×List Nat)]).map vlR:=by rw[List.map_append,←hBv];rfl
      have hXx:=λ(K:a03)=>(show a1u 0 false (a2i (a01 (some (.row 2 [[sl zr (zs.map u8R),.int .u8 what]])::some (.row 4 [[sl c.nc (c.nodes.map Nd.enc),sl c.mc (c.names.map a39),.nilslice,sl c.oc (c.outs.map a11)]])::some (.row 1 R)::none::some (.row 1 W0)::some (.row 1 [[.nilslice]])::some (.row 1 ([.slice 4 0 m none]::(WR++[[.nilslice]])))::K)) 0 12) (.slice 2 0 qs.length none)=some (sl (some none) (A.map vlR)) by rw[←hAq,a24];simp+decide only[go_sem,a5y,a07,hRl,hRtk,hRz])
      have hYx:=λ(K:a03)=>(show a1u 0 false (a2i (a01 (some (.row 2 [[sl zr (zs.map u8R),.int .u8 what]])::some (.row 4 [[sl c.nc (c.nodes.map Nd.enc),sl c.mc (c.names.map a39),.nilslice,sl c.oc (c.outs.map a11)]])::some (.row 1 R)::none::some (.row 1 W0)::some (.row 1 [[.nilslice]])::some (.row 1 ([.slice 4 0 m none]::(WR++[[.nilslice]])))::K)) 0 12) (.slice 6 0 (qs.length+1) none)=some (sl (some none) ((B++[(none,[])]).map vlR)) by rw[←hBvx,a24];simp+decide only[go_sem,a5y,a07,hwlx,hwtx,hwzx,h0l,hitk,h0z])
      have hcx:=λ(d:Bool) (K:a03)=>a41 (d:=d) c hc ht (some none) (some none) A _ (by decide) (hXx K) (hYx K) hft;simp only[Cir.enc]at hcx
      (repeat first|simp only[ww]|(apply xa;simp+decide only[go_sem,c1,hRl,w2,hb,hwl3,hwtk,hgr,hcx,hlv];rfl;kernel_rfl))
      refine a4w (vs:=[.bool true]) (r:=(_,_)) (by simp+decide only[go_sem]) ?_ rfl;simp+decide only[go_sem,a1e]<;>rfl
     ·rw[hb]at w2;have c0:(0:Int)<qs.length:=by omega
      have hwn1:IntKind.i64.wrap ((qs.length:Int)-1)=((qs.length-1:Nat):Int):=by rw[w64 (by omega) (by omega)];omega
      have hlt1:qs.length-1<qs.length:=by omega
      obtain⟨a,ha⟩:∃a,A[qs.length-1]?=some a:=⟨_,z9e (by omega)⟩
      obtain⟨a1,a2⟩:=hA a (List.mem_of_getElem? ha);have hgr:k+1≤1000000000:=by omega
      have hU:(a.2.map u8R).all (λr=>decide (r.length=1))=true:=by rw[List.all_map,List.all_eq_true];intro v _;rfl
      have hUf:FlatR (a.2.map u8R):=b5y a.2;have hUl:(a.2.map u8R).length=k:=by rw[List.length_map,a1]
      obtain⟨cap,hcap⟩:∃cap,sl a.1 (a.2.map u8R) = .islice (a.2.map u8R) cap:=by
       cases h:a.1 with
       |some c=>exact⟨c,a24 _ _⟩
       |none=>exact⟨none,a87 (by intro e;rw[e]at hUl;simp at hUl;omega)⟩
      have hRi:R[qs.length-1]?=some [sl a.1 (a.2.map u8R)]:=by rw[hAq,List.getElem?_map,ha];rfl
      rw[hcap]at hRi;obtain⟨U,hUe⟩:∃U,a.2.map u8R=U:=⟨_,rfl⟩
      rw[hUe]at hRi hU hUf hUl hcap;obtain⟨v0,r0,hvr⟩:∃v0 r0,a.2=v0::r0:=by
       cases h:a.2 with
       |nil=>rw[h]at a1;simp at a1;omega
       |cons v0 r0=>exact⟨v0,r0,rfl⟩
      obtain⟨U1,hU1⟩:∃U1,r0.map u8R=U1:=⟨_,rfl⟩
      have hUU:U=[.int .u8 v0]::U1:=by rw[←hUe,hvr,←hU1];rfl
      have hU1f:FlatR U1:=by rw[←hU1];exact b5y r0
      have hU1r:=a0d hU1f;have hU1n:=λπ=>a08 π hU1f;have hU1l:U1.length+1=k:=by rw[←hUl,hUU];rfl
      have hg2:U1.length+1+1≤1000000000:=by omega
      have hg3:U1.length+1≤1000000000:=by omega
      rw[hUU]at hRi;have hUa:U1.all (λr=>decide (r.length=1))=true:=by rw[←hU1,List.all_map,List.all_eq_true];intro v _;rfl
      obtain⟨S7,hS7⟩:∃S7,R.set (qs.length-1) [.slice 7 0 (U1.length+1+1) none]=S7:=⟨_,rfl⟩
      have hS7l:S7.length=qs.length:=by rw[←hS7,List.length_set,hRl]
      have hS7t:S7.take qs.length=S7:=List.take_of_length_le (by omega);have hU7f:FlatR (U1++[[AV.int .u8 (0:Int)]]):=FlatR.append hU1f (FlatR.cons rfl FlatR.nil);have hU7z:=λm d=>a0s (m:=m) (d:=d) hU7f;have hU7l:([AV.int .u8 (v0:Int)]::(U1++[[AV.int .u8 (0:Int)]])).length=U1.length+1+1:=by simp only[List.length_cons,List.length_append,List.length_nil]
      have hU7t:([AV.int .u8 (v0:Int)]::(U1++[[AV.int .u8 (0:Int)]])).take (U1.length+1+1)=[AV.int .u8 (v0:Int)]::(U1++[[AV.int .u8 (0:Int)]]):=List.take_of_length_le (by omega);obtain⟨A7,hA7⟩:∃A7,A.set (qs.length-1) (((some none,a.2++[0]):Rep×List Nat))=A7:=⟨_,rfl⟩
      have hA7l:A7.length=qs.length:=by rw[←hA7,List.length_set,hAl]
      have hA7v:R.set (qs.length-1) [.islice ([AV.int .u8 (v0:Int)]::(U1++[[AV.int .u8 (0:Int)]])) none]=A7.map vlR:=by
       rw[←hA7,List.map_set,hAq]
       congr 1
       show _=[sl (some none) ((a.2++[0]).map u8R)]
       rw[a24,hvr,←hU1,List.map_append];rfl
      have hft:=c5w c hc ht (some none) (some none) A7 B (by omega) (by omega) (qs.length-1) (by omega) (λi a' hi h=>by
       rw[←hA7,List.getElem?_set_ne (by omega)]at h;exact(hA a' (List.mem_of_getElem? h)).1) (λa' h=>by
       rw[←hA7,List.getElem?_set_self (by omega)]at h;cases h;simp only[List.length_append,List.length_singleton,a1];omega) (λb hb=>(hB b hb).1)
      have hX7:=λ(K:a03)=>(show a1u 0 false (a2i (a01 (some (.row 2 [[sl zr (zs.map u8R),.int .u8 what]])::some (.row 4 [[sl c.nc (c.nodes.map Nd.enc),sl c.mc (c.names.map a39),.nilslice,sl c.oc (c.outs.map a11)]])::some (.row 1 S7)::some (.row 1 ([.slice 4 0 m none]::WR))::some (.row 1 W0)::none::some (.row 1 [[.int .u8 (0:Int)]])::some (.row 1 ([AV.int .u8 (v0:Int)]::(U1++[[AV.int .u8 (0:Int)]])))::K)) 0 12) (.slice 2 0 qs.length none)=some (sl (some none) (A7.map vlR)) by
       have h7:a6u 0 (a2i (a01 (some (.row 2 [[sl zr (zs.map u8R),.int .u8 what]])::some (.row 4 [[sl c.nc (c.nodes.map Nd.enc),sl c.mc (c.names.map a39),.nilslice,sl c.oc (c.outs.map a11)]])::some (.row 1 S7)::some (.row 1 ([.slice 4 0 m none]::WR))::some (.row 1 W0)::none::some (.row 1 [[.int .u8 (0:Int)]])::some (.row 1 ([AV.int .u8 (v0:Int)]::(U1++[[AV.int .u8 (0:Int)]])))::K)) 0 11) S7=some (A7.map vlR):=by
        have h8:a1u 0 false (a2i (a01 (some (.row 2 [[sl zr (zs.map u8R),.int .u8 what]])::some (.row 4 [[sl c.nc (c.nodes.map Nd.enc),sl c.mc (c.names.map a39),.nilslice,sl c.oc (c.outs.map a11)]])::some (.row 1 S7)::some (.row 1 ([.slice 4 0 m none]::WR))::some (.row 1 W0)::none::some (.row 1 [[.int .u8 (0:Int)]])::some (.row 1 ([AV.int .u8 (v0:Int)]::(U1++[[AV.int .u8 (0:Int)]])))::K)) 0 11) (.slice 7 0 (U1.length+1+1) none)=some (.islice ([AV.int .u8 (v0:Int)]::(U1++[[AV.int .u8 (0:Int)]])) none):=by simp+decide only[go_sem,a5y,a07,hU7l,hU7t,hU7z]
        rw[←hA7v]
        conv=>lhs;arg 3;rw[←hS7]
        exact b8t h8 _ hRf
       rw[a24];simp+decide only[go_sem,a5y,a07,hS7l,hS7t,h7])
      have hY7:=λ(K:a03)=>(show a1u 0 false (a2i (a01 (some (.row 2 [[sl zr (zs.map u8R),.int .u8 what]])::some (.row 4 [[sl c.nc (c.nodes.map Nd.enc),sl c.mc (c.names.map a39),.nilslice,sl c.oc (c.outs.map a11)]])::some (.row 1 S7)::some (.row 1 ([.slice 4 0 m none]::WR))::some (.row 1 W0)::none::some (.row 1 [[.int .u8 (0:Int)]])::some (.row 1 ([AV.int .u8 (v0:Int)]::(U1++[[AV.int .u8 (0:Int)]])))::K)) 0 12) (.slice 3 0 qs.length none)=some (sl (some none) (B.map vlR)) by rw[←hBv,a24];simp+decide only[go_sem,a5y,a07,hwl3,hwtk,hwz,h0l,hitk,h0z])
      have hcx:=λ(d:Bool) (K:a03)=>a41 (d:=d) c hc ht (some none) (some none) A7 B (by decide) (hX7 K) (hY7 K) hft;simp only[Cir.enc]at hcx
      (repeat first|simp only[ww]|(apply xa;simp+decide only[go_sem,c1,hRl,w2,hb,c0,hwn1,hlt1,hRi,hUa,hg2,hg3,List.length_map,hS7,hcx,hlv];rfl;kernel_rfl))
      refine a4w (vs:=[.bool true]) (r:=(_,_)) (by simp+decide only[go_sem]) ?_ rfl;simp+decide only[go_sem,a1e]<;>rfl
     ·rw[hb]at w2;have c0:(0:Int)<qs.length:=by omega
      have c00:(0:Int)<m:=by omega
      have hm0:0<m:=hm1;obtain⟨v,w1,hw1⟩:∃v w1,w0=v::w1:=by
       cases w0 with
       |nil=>rw[←hW0]at h0l;simp at h0l;omega
       |cons v w1=>exact⟨v,w1,rfl⟩
      obtain⟨W1,hW1⟩:∃W1,w1.map u8R=W1:=⟨_,rfl⟩
      have hW01:W0=[.int .u8 v]::W1:=by rw[←hW0,hw1,←hW1];rfl
      have hW1l:([AV.int .u8 v]::W1).length=m:=by rw[←hW01];exact h0l
      rw[hW01];obtain⟨b0,B1,rfl⟩:∃b0 B1,B=b0::B1:=by
       cases B with
       |nil=>simp at hBl;omega
       |cons b0 B1=>exact⟨b0,B1,rfl⟩
      have hb0:=hB0 b0 rfl;subst hb0;have hWR1:WR=B1.map vlR:=(List.cons.inj hBv).2;have hw0l:w0.length=m:=(hB (some none,w0) (by simp)).1;rw[hw1]at hw0l;have hft:=c5v c hc ht (some none) (some none) A (((some none,4::w1):Rep×List Nat)::B1) (by omega) (by rw[hAl,←hBl];rfl) (by intro e;rw[e]at hAl;simp at hAl;omega) hA (λb hb=>by
       rcases List.mem_cons.1 hb with rfl|hb
       ·exact hw0l
       ·exact(hB b (List.mem_cons_of_mem _ hb)).1) (λb hb=>by cases hb;rfl)
      have h0f3:FlatR ([AV.int .u8 (4:Int)]::W1):=by rw[←hW1];exact b5y (4::w1)
      have h0l3:([AV.int .u8 (4:Int)]::W1).length=m:=hW1l;have hitk3:([AV.int .u8 (4:Int)]::W1).take m=[AV.int .u8 (4:Int)]::W1:=List.take_of_length_le (by omega);have h0z3:=λm d=>a0s (m:=m) (d:=d) h0f3;have hBv3:[AV.islice ([AV.int .u8 (4:Int)]::W1) none]::WR=((((some none,4::w1):Rep×List Nat)::B1)).map vlR:=by rw[hWR1,←hW1];rfl
      obtain⟨W3,hW3⟩:∃W3,[AV.int .u8 (4:Int)]::W1=W3:=⟨_,rfl⟩
      have hX3:=λ(K:a03)=>(show a1u 0 false (a2i (a01 (some (.row 2 [[sl zr (zs.map u8R),.int .u8 what]])::some (.row 4 [[sl c.nc (c.nodes.map Nd.enc),sl c.mc (c.names.map a39),.nilslice,sl c.oc (c.outs.map a11)]])::some (.row 1 R)::some (.row 1 ([.slice 4 0 m none]::WR))::some (.row 1 ([AV.int .u8 (4:Int)]::W1))::K)) 0 12) (.slice 2 0 qs.length none)=some (sl (some none) (A.map vlR)) by rw[←hAq,a24];simp+decide only[go_sem,a5y,a07,hRl,hRtk,hRz])
      have hY3:=λ(K:a03)=>(show a1u 0 false (a2i (a01 (some (.row 2 [[sl zr (zs.map u8R),.int .u8 what]])::some (.row 4 [[sl c.nc (c.nodes.map Nd.enc),sl c.mc (c.names.map a39),.nilslice,sl c.oc (c.outs.map a11)]])::some (.row 1 R)::some (.row 1 ([.slice 4 0 m none]::WR))::some (.row 1 ([AV.int .u8 (4:Int)]::W1))::K)) 0 12) (.slice 3 0 qs.length none)=some (sl (some none) ((((some none,4::w1):Rep×List Nat)::B1).map vlR)) by rw[←hBv3,a24];rw[hW3]at h0l3 hitk3 h0z3⊢;simp+decide only[go_sem,a5y,a07,hwl3,hwtk,hwz,h0l3,hitk3,h0z3])
      have hcx:=λ(d:Bool) (K:a03)=>a41 (d:=d) c hc ht (some none) (some none) A _ (by decide) (hX3 K) (hY3 K) hft;simp only[Cir.enc]at hcx
      (repeat first|simp only[ww]|(apply xa;simp+decide only[go_sem,c1,hRl,w2,hb,c0,c00,hq0,hm0,hout,hwl3,hW1l,List.length_map,hcx,hlv];rfl;kernel_rfl))
      refine a4w (vs:=[.bool true]) (r:=(_,_)) (by simp+decide only[go_sem]) ?_ rfl;simp+decide only[go_sem,a1e]<;>rfl
 ·have d0:((8:Int)<ps.length):=by omega
  simp only[CX.enc]
  (refine svE Tryz.f4 ?_;simp only[Tryz.f4,gS])
  (repeat first|simp only[ww]|(apply xa;simp+decide only[go_sem,d0,hlv,List.length_map];rfl;kernel_rfl))
  refine a4w (vs:=[.bool true]) (r:=(_,_)) (by simp+decide only[go_sem]) ?_ rfl;simp+decide only[go_sem,a1e]<;>rfl
end Go.UInst
