/- Part of a proof. No condition. -/
import Derived.Test.YtlldffjabagdbaaGreatDoorTLg
import Derived.Test.YtlldffjabagdbaaGreatDoorAxPrim
import Derived.Test.YtlldffjabagdbaaGreatDoorAxD
import Derived.Test.YtlldffjabagdbaaGreatDoorPcD
set_option linter.unusedSectionVars false
set_option linter.unusedSimpArgs false
set_option linter.unusedVariables false
namespace Go.TInst
open Go.Proofs Go.Ax Go.Pc
set_option maxRecDepth 100000
theorem e57(m:Nat)(p b:Nat→Bool):sem L.env Mf 32 [.map 0,.iset (a1p m b)] [some (.uset (a1p m p))]=some (.tuple [],[some (.uset (a1p m λk=>p k||b k))]):=by
 suffices hs:∃r:AV×a03,(r=(.tuple [],[some (.uset (a1p m λk=>p k||b k))]))∧sem L.env Mf 32 [.map 0,.iset (a1p m b)] [some (.uset (a1p m p))]=some r by obtain⟨r,rfl,h3⟩:=hs;exact h3
 (refine svE Tryz.f32 ?_;simp only[Tryz.f32,gS])
 (repeat first|simp only[ww]|(apply xa;simp+decide only[go_sem];rfl;kernel_rfl))
 refine d15 kp32_0 (a1p m b) (λV=>[(0,.map 0),(7,.ptr 1 0 0)]) (λV=>[some (.uset (a1p m λk=>p k||met V k)),some (.miter (a1p m b) V none)]) 1 (.exit 0)
  [(9,.bool false),(8,.tuple [.bool false]),(0,.map 0),(7,.ptr 1 0 0)] [some (.uset (a1p m λk=>p k||b k)),none] (b3d _ _) ?_ ?_ ?_ ?_ ?_
 ·have e:(a1p m λk=>p k||met [] k)=a1p m p:=a19 λi _=>by simp[c5p]
  (simp+decide only[go_sem,a02,a00,e]<;>rfl)<;>rfl
 ·intro V _ _;exact⟨rfl,none,rfl⟩
 ·intro V i h1 h2 h3 h4;obtain⟨j,rfl,hj,_⟩:=b0j.1 h3;have e1:=b6k (q:=λk=>p k||met V k) hj;have e2:(a1p m λk=>p k||met V k||decide (k=j))=a1p m λk=>p k||met (V++[(j:Int)]) k:=a19 λk _=>by rw[b1v,Bool.or_assoc]
  refine xq (by simp+decide only[go_sem]<;>rfl) ?_
  (repeat first|simp only[ww]|(apply xa;simp+decide only[go_sem,e1,e2];rfl;kernel_rfl))
  show gcD _ _ _ _=_
  (simp+decide only[go_sem,a02,a00]<;>rfl)<;>rfl
 ·intro V hV;have e:(a1p m λk=>p k||met V k)=a1p m λk=>p k||b k:=a19 λk hk=>by rw[c0w hV hk]
  refine xq (by simp+decide only[go_sem]<;>rfl) ?_;rw[e]
  (repeat first|simp only[ww]|(apply xa;simp+decide only[go_sem];rfl;kernel_rfl))
  exact⟨rfl,rfl,rfl⟩
 ·simp only[ww];refine c3w (vs:=[]) (r:=(.tuple [],[some (.uset (a1p m λk=>p k||b k))])) (by simp+decide only[go_sem]) ?_ rfl;rfl
theorem c43{d:Bool}(H:a03)(c:Nat)(m:Nat)(p b:Nat→Bool)(hb:a01 H c=some (.uset (a1p m p))) :
 a0b L.env d (sem L.env Mf) (.func (.func 32) [] []) [.map c,.iset (a1p m b)] H=some (.tuple [],H.set c (some (.uset (a1p m λk=>p k||b k))),[c]):=
 a60 (fs:=[]) (cs:=[]) (args:=[.map c,.iset (a1p m b)]) (by kernel_rfl) (by kernel_rfl) rfl hb rfl (λπ=>rfl) (by simp[a0l,refs]) (au:=[.map 0,.iset (a1p m b)]) (by simp[ren,b0m]) (e57 m p b) (λπ=>rfl) rfl
theorem d91(v:Nat):sem L.env Mf 141 [.int .u8 v] []=some (.bool (decide (1<v)),[]):=by
 by_cases h:1<v
 ·have c1:(1:Int)<v:=by omega
  (refine sv Tryz.f141 ?_;simp only[Tryz.f141,gS])
  (repeat first|simp only[ww]|(apply xa;simp+decide only[go_sem,c1];rfl;kernel_rfl))
  (apply fqb;simp+decide only[go_sem,h]<;>rfl)
 ·have c1:¬(1:Int)<v:=by omega
  (refine sv Tryz.f141 ?_;simp only[Tryz.f141,gS])
  (repeat first|simp only[ww]|(apply xa;simp+decide only[go_sem,c1];rfl;kernel_rfl))
  (apply fqb;simp+decide only[go_sem,h]<;>rfl)
theorem d04(d:Bool)(H:a03)(v:Nat):a0b L.env d (sem L.env Mf) (.func (.func 141) [] []) [.int .u8 v] H=some (.bool (decide (1<v)),H,[]):=a04 (by kernel_rfl) (by kernel_rfl) rfl rfl (d91 v) rfl
theorem e52(p:Pat)(h1:∀v∈p.ins,v≤1)(h2:∀v∈p.sts,v≤1)(l1:p.ins.length<1000000)(l2:p.sts.length<1000000):sem L.env Mf 105 [.agg p.enc] []=some (.bool true,[]):=by
 have hc:∀(r:Rep) (l:List Nat),(∀v∈l,v≤1)→l.length<1000000→∀(d:Bool) (H:a03),a0b L.env d (sem L.env Mf) (.func (.func 54) [] []) [sl r (l.map u8R),.func (.func 141) [] []] H=some (.bool false,H,[]):=by
  intro r l hv hl d H;have h:=c3c l (sl r (l.map u8R)) [] (RA.imm r) hl (.func (.func 141) [] []) (λv=>decide (1<v)) rfl d04;have e:l.any (λv=>decide (1<v))=false:=by rw[List.any_eq_false];intro v hm;have:=hv v hm;simp;omega
  rw[e]at h;exact a04 (by kernel_rfl) (by kernel_rfl) rfl (by simp only[e14,f4g,go_sem]) h rfl
 have a1:=hc p.ic p.ins h1 l1;have a2:=hc p.sc p.sts h2 l2;simp only[Pat.enc]
 (refine sv Tryz.f105 ?_;simp only[Tryz.f105,gS])
 (repeat first|simp only[ww]|(apply xa;simp+decide only[go_sem,a1,a2];rfl;kernel_rfl))
 (apply fqb;simp+decide only[go_sem]<;>rfl)
theorem d4u{d:Bool}(H:a03)(p:Pat)(h1:∀v∈p.ins,v≤1)(h2:∀v∈p.sts,v≤1)(l1:p.ins.length<1000000)(l2:p.sts.length<1000000):a0b L.env d (sem L.env Mf) (.func (.func 105) [] []) [.agg p.enc] H=some (.bool true,H,[]):=a04 (by kernel_rfl) (by kernel_rfl) rfl (by simp only[e14,f4g,Pat.enc,go_sem]) (e52 p h1 h2 l1 l2) rfl
theorem e51(v:Nat)(h:v≠12∧v≠13):sem L.env Mf 139 [.slice 0 0 2 (some 2),.int .u8 v] [some (.row 1 [[.int .u8 12],[.int .u8 13]])]=some (.int .i64 (-1),[some (.row 1 [[.int .u8 12],[.int .u8 13]])]):=by
 have uh:¬(v:Int)=12:=by omega
 have ug:¬(v:Int)=13:=by omega
 (refine sv Tryz.f139 ?_;simp only[Tryz.f139,gS])
 (repeat first|simp only[ww]|(apply xa;simp+decide only[go_sem];rfl;kernel_rfl))
 refine a0q (σ:=Nat) kp139_0 (λi=>[(0,.slice 0 0 2 (some 2)),(1,.int .u8 v),(7,.int .i64 2),(8,.int .i64 i)])
  (λ_=>[some (.row 1 [[.int .u8 12],[.int .u8 13]])]) (λi=>2-i) (λi=>i≤2) 0 ?_ (by simp) ?_
 ·(simp+decide only[go_sem,a02,a00]<;>rfl)
 ·intro i hi;have hh:i=0∨i=1∨i=2:=by omega
  rcases hh with rfl|rfl|rfl
  ·(repeat first|simp only[ww]|(apply xa;simp+decide only[go_sem,uh];rfl;kernel_rfl))
   refine a21 1 ?_ (by omega) (by omega)
   (simp+decide only[go_sem,a02,a00]<;>rfl)
  ·(repeat first|simp only[ww]|(apply xa;simp+decide only[go_sem,ug];rfl;kernel_rfl))
   refine a21 2 ?_ (by omega) (by omega)
   (simp+decide only[go_sem,a02,a00]<;>rfl)
  ·(repeat first|simp only[ww]|(apply xa;simp+decide only[go_sem];rfl;kernel_rfl))
   (apply fqb;simp+decide only[go_sem]<;>rfl)
theorem d95(v:Nat)(h:v≠12∧v≠13):sem L.env Mf 97 [.slice 0 0 2 (some 2),.int .u8 v] [some (.row 1 [[.int .u8 12],[.int .u8 13]])]=some (.bool false,[some (.row 1 [[.int .u8 12],[.int .u8 13]])]):=by
 have hc:a0b L.env false (sem L.env Mf) (.func (.func 139) [] []) [.slice 0 0 2 (some 2),.int .u8 v] [some (.row 1 [[.int .u8 12],[.int .u8 13]])]=some (.int .i64 (-1),[some (.row 1 [[.int .u8 12],[.int .u8 13]])],[0]):=a2e (by kernel_rfl) (by kernel_rfl) rfl rfl rfl (FlatO.row (FlatR.cons rfl (FlatR.cons rfl FlatR.nil))) rfl rfl (e51 v h) rfl
 (refine sv Tryz.f97 ?_;simp only[Tryz.f97,gS])
 (repeat first|simp only[ww]|(apply xa;simp+decide only[go_sem,hc];rfl;kernel_rfl))
 (apply fqb;simp+decide only[go_sem]<;>rfl)
theorem d09{d:Bool}(v:Nat)(h:v≠12∧v≠13)(X:a03):a0b L.env d (sem L.env Mf) (.func (.func 97) [] []) [.slice 0 0 2 (some 2),.int .u8 v] (some (.row 1 [[.int .u8 12],[.int .u8 13]])::X)=some (.bool false,some (.row 1 [[.int .u8 12],[.int .u8 13]])::X,[0]):=a2e (by kernel_rfl) (by kernel_rfl) rfl rfl rfl (FlatO.row (FlatR.cons rfl (FlatR.cons rfl FlatR.nil))) rfl rfl (d95 v h) rfl
theorem e4z(c:Cir)(hl:c.nodes.length<1000000)(hk:∀x∈c.nodes,x.kind≠12∧x.kind≠13):sem L.env Mf 52 [.agg c.enc,.slice 0 0 2 (some 2)] [some (.row 1 [[.int .u8 12],[.int .u8 13]])]=some (.nilslice,[some (.row 1 [[.int .u8 12],[.int .u8 13]])]):=by
 have bZ:=λv h X=>d09 (d:=false) v h X
 (refine sv Tryz.f52 ?_;simp only[Tryz.f52,gS])
 (repeat first|simp only[ww]|(apply xa;simp+decide only[go_sem,Cir.enc];rfl;kernel_rfl))
 refine a0q (σ:=Nat) kp52_0 (λi=>[(1,.slice 0 0 2 (some 2)),(5,.nilslice),(9,sl c.nc (c.nodes.map Nd.enc)),(10,.int .i64 c.nodes.length),(11,.int .i64 i)])
  (λi=>[some (.row 1 [[.int .u8 12],[.int .u8 13]])]) (λi=>c.nodes.length-i) (λi=>i≤c.nodes.length) 0 ?_ (f4m _) ?_
 ·(simp+decide only[go_sem,a02,a00]<;>rfl)
 ·intro i hi;by_cases ah:i<c.nodes.length
  ·obtain⟨x,hx⟩:∃x,c.nodes[i]?=some x:=⟨_,z9e ah⟩
   have c1:(i:Int)<c.nodes.length:=by omega
   have hw:=wI1 (n:=i) (by omega);have bZ:=λX=>bZ x.kind (hk x (c11 hx)) X
   (repeat first|simp only[ww]|(apply xa;simp+decide only[go_sem,c1,ah,hx,hw,bZ];rfl;kernel_rfl))
   refine a21 (i+1) ?_ (by omega) (by omega)
   (simp+decide only[go_sem,a02,a00]<;>rfl)
  ·obtain rfl:i=c.nodes.length:=by omega
   have c1:¬(c.nodes.length:Int)<c.nodes.length:=by omega
   have cD:=λH=>a04 (E:=L.env) (ag:=false) (call:=sem L.env Mf) (g:=69) (fs:=[]) (cs:=[]) (ar:=[.nilslice]) (H:=H) (by kernel_rfl) (by kernel_rfl) rfl rfl c1q rfl
   (repeat first|simp only[ww]|(apply xa;simp+decide only[go_sem,c1,cD];rfl;kernel_rfl))
   (apply fqb;simp+decide only[go_sem]<;>rfl)
theorem d4r{d:Bool}{H:a03}{b:Nat}(c:Cir)(hl:c.nodes.length<1000000)(hk:∀x∈c.nodes,x.kind≠12∧x.kind≠13)(hb:a01 H b=some (.row 1 [[.int .u8 12],[.int .u8 13]])) :
 a0b L.env d (sem L.env Mf) (.func (.func 52) [] []) [.agg c.enc,.slice b 0 2 (some 2)] H=some (.nilslice,H,[b]):=
 a2e (E:=L.env) (ag:=d) (call:=sem L.env Mf) (g:=52) (fs:=[]) (cs:=[]) (ar:=[.agg c.enc,.slice b 0 2 (some 2)]) (H:=H) (b:=b) (by kernel_rfl) (by kernel_rfl) rfl hb rfl (FlatO.row (FlatR.cons rfl (FlatR.cons rfl FlatR.nil))) (by simp only[e14,f4g,a07,a11,Cir.enc,go_sem]) (au:=[.agg c.enc,.slice 0 0 2 (some 2)]) (by simp only[e14,f4g,c10,f4h,a20,c5g]) (e4z c hl hk) rfl
theorem d4q(c:Cir)(hl:c.nodes.length<1000000)(hk:∀x∈c.nodes,x.kind≠12∧x.kind≠13):sem L.env Mf 104 [.agg c.enc] []=some (.bool true,[]):=by
 have hn:=λX Y=>d4r (d:=false) (H:=X::some (.row 1 [[.int .u8 12],[.int .u8 13]])::Y) (b:=1) c hl hk rfl;simp only[Cir.enc]at hn⊢
 (refine sv Tryz.f104 ?_;simp only[Tryz.f104,gS])
 (repeat first|simp only[ww]|(apply xa;simp+decide only[go_sem,hn];rfl;kernel_rfl))
 (apply fqb;simp+decide only[go_sem]<;>rfl)
theorem c6b{d:Bool}(H:a03)(c:Cir)(hl:c.nodes.length<1000000)(hk:∀x∈c.nodes,x.kind≠12∧x.kind≠13):a0b L.env d (sem L.env Mf) (.func (.func 104) [] []) [.agg c.enc] H=some (.bool true,H,[]):=a04 (by kernel_rfl) (by kernel_rfl) rfl (by simp only[e14,f4g,Cir.enc,go_sem]) (d4q c hl hk) rfl
def lnR(x:Nat×Int):List AV:=[.int .i64 x.1,.int .i64 x.2]
def a5s(n p:Nat):List (Nat×Int):=(List.range p).map λ(k:Nat)=>(n,(k:Int)-1)
def a2x(nodes:List Nd)(n:Nat):List (Nat×Int):=(List.range n).flatMap λi=>a5s i ((a15 nodes i).length+1)
def b6c(nodes:List Nd):List (Nat×Int):=a2x nodes nodes.length
theorem d2c(n p:Nat):a5s n (p+1)=a5s n p++[(n,(p:Int)-1)]:=by unfold a5s;rw[f9k,f6c];rfl
theorem b3a(nodes:List Nd)(n:Nat):a2x nodes (n+1)=a2x nodes n++a5s n ((a15 nodes n).length+1):=by unfold a2x;rw[f9k,List.flatMap_append];simp
theorem c38(nodes:List Nd)(hi:∀x∈nodes,x.ins.length≤16):∀n,n≤nodes.length→(a2x nodes n).length≤17*n
 |0,_=>by simp[a2x]
 |n+1,hn=>by
  have ih:=c38 nodes hi n (by omega);obtain⟨x,hx⟩:∃x,nodes[n]?=some x:=⟨_,z9e (by omega)⟩
  have h1:=hi x (c11 hx);rw[b3a,f5z,a1c hx];have:(a5s n (x.ins.length+1)).length=x.ins.length+1:=by simp[a5s]
  omega
theorem c1i(l:List (Nat×Int)):FlatR (l.map lnR):=FlatR.map λ_=>rfl
theorem d4s(c:Cir)(h:c.wf):sem L.env Mf 10 [.agg c.enc] []=some (.tuple [.islice ((b6c c.nodes).map lnR) (some (b6c c.nodes).length),.int .i64 0],[]):=by
 have hn:=h.len;have hp:=h.pos;have hv:=λH=>b17 (d:=false) H c h;have fS:∀l:List (Nat×Int),(l.map lnR).flatMap a0l=[]:=λl=>a0f (c1i l);have d6:∀(π:Nat→Option Nat) (l:List (Nat×Int)),(l.map lnR).map (λr=>r.map (ren π))=l.map lnR:=λπ l=>a0c π (c1i l);have kn:∀{m:Nat} {d:AV→Option AV} (l:List (Nat×Int)),a9g m d (l.map lnR)=some (l.map lnR):=λl=>a12 _ _ (c1i l);have oK:∀x∈c.nodes,x.ins.length≤16:=λx hx=>h.insl hx;simp only[Cir.enc]at hv⊢
 (refine sv Tryz.f10 ?_;simp only[Tryz.f10,gS])
 (repeat first|simp only[ww]|(apply xa;simp+decide only[go_sem,hv];rfl;kernel_rfl))
 refine a0q (σ:=Nat) kp10_0 (λi=>[(5,grV 0 ((a2x c.nodes i).map lnR)),(15,sl c.nc (c.nodes.map Nd.enc)),(16,.int .i64 c.nodes.length),(17,.int .i64 i)])
  (λi=>grH 2 ((a2x c.nodes i).map lnR)) (λi=>c.nodes.length-i) (λi=>i≤c.nodes.length) 0 ?_ (f4m _) ?_
 ·have e:a2x c.nodes 0=[]:=rfl
  (simp+decide only[go_sem,a02,a00,e,f4h,a0g,a0h]<;>rfl)
 ·intro i hi;by_cases ah:i<c.nodes.length
  ·obtain⟨x,hx⟩:∃x,c.nodes[i]?=some x:=⟨_,z9e ah⟩
   have c1:(i:Int)<c.nodes.length:=by omega
   have hw:=wI1 (n:=i) (by omega);have mW:=oK x (c11 hx);have pr:=a1c hx;have fE:=wI1 (n:=x.ins.length) (by omega);have aQ:=c38 c.nodes oK i hi;have gj:=b3a c.nodes i;rw[pr]at gj
   (repeat first|simp only[ww]|(apply xa;simp+decide only[go_sem,c1,ah,hx,fE,a1v,a2p,a4h,a6d,a3t];rfl;kernel_rfl))
   refine a0q (σ:=Nat) kp10_2 (λp=>[(5,grV 0 ((a2x c.nodes i++a5s i p).map lnR)),(6,.int .i64 i),(15,sl c.nc (c.nodes.map Nd.enc)),(16,.int .i64 c.nodes.length),(17,.int .i64 i),(25,.int .i64 (x.ins.length+1:Nat)),(26,.int .i64 p)])
    (λp=>grH 2 ((a2x c.nodes i++a5s i p).map lnR)) (λp=>x.ins.length+1-p) (λp=>p≤x.ins.length+1) 0 ?_ (f4m _) ?_
   ·have e:a2x c.nodes i++a5s i 0=a2x c.nodes i:=by simp[a5s]
    rw[e];generalize a2x c.nodes i=l;cases l with
    |nil=>((simp+decide only[go_sem,a02,a00,f4h,a0g,a0h]<;>rfl))
    |cons a r=>((simp+decide only[go_sem,a02,a00,c10,a05,a06,fS,d6,lnR,f4j]<;>rfl))
   ·intro p hp;have bV:(a5s i p).length=p:=by simp[a5s]
    by_cases wh:p<x.ins.length+1
    ·have d1:(p:Int)<(x.ins.length+1:Nat):=by omega
     have sD:=wI1 (n:=p) (by omega);have lX:IntKind.i64.wrap ((p:Int)-1)=(p:Int)-1:=w64 (by omega) (by omega);have hs:=d2c i p;have aE:(a2x c.nodes i++a5s i p).length+1≤1000000000:=by rw[f5z];omega
     have iU:a2x c.nodes i++a5s i (p+1)=(a2x c.nodes i++a5s i p)++[(i,(p:Int)-1)]:=by rw[hs,f4i]
     generalize a2x c.nodes i++a5s i p=l at iU aE;cases l with
     |nil=>
      (repeat first|simp only[ww]|(apply xa;simp+decide only[go_sem,d1,sD,lX,f4h,a0g,a0h];rfl;kernel_rfl))
      refine a21 (p+1) ?_ (by omega) (by omega);simp only[iU]
      (simp+decide only[go_sem,a02,a00,e14,c10,f4h,a05,a06,lnR,f4o]<;>rfl)
     |cons a r=>
      simp only[e12]at aE
      (repeat first|simp only[ww]|(apply xa;simp+decide only[go_sem,d1,sD,lX,c10,a05,a06,aE,f4j];rfl;kernel_rfl))
      refine a21 (p+1) ?_ (by omega) (by omega);simp only[iU]
      (simp+decide only[go_sem,a02,a00,f6a,c10,f6c,f4h,a05,a06,fS,d6,lnR,f4j,f5z,e12,f4o]<;>rfl)
    ·obtain rfl:p=x.ins.length+1:=by omega
     have d1:¬((x.ins.length+1:Nat):Int)<(x.ins.length+1:Nat):=by omega
     obtain⟨l,hl⟩:∃l,l=a2x c.nodes (i+1):=⟨_,rfl⟩
     rw[←gj,←hl]
     (repeat first|simp only[ww]|(apply xa;simp+decide only[go_sem,d1,hw];rfl;kernel_rfl))
     refine a21 (i+1) ?_ (by omega) (by omega);simp only[←hl];clear hl;cases l with
     |nil=>((simp+decide only[go_sem,a02,a00,f4h,a0g,a0h]<;>rfl))
     |cons a r=>((simp+decide only[go_sem,a02,a00,c10,a05,a06,fS,d6,lnR,f4j]<;>rfl))
  ·obtain rfl:i=c.nodes.length:=by omega
   have c1:¬(c.nodes.length:Int)<c.nodes.length:=by omega
   have aF:a2x c.nodes c.nodes.length≠[]:=by
    intro e;obtain⟨m,hm⟩:∃m,c.nodes.length=m+1:=⟨c.nodes.length-1,by omega⟩
    have h1:=congrArg List.length (b3a c.nodes m);rw[←hm,e]at h1;simp[a5s]at h1
   unfold b6c;generalize a2x c.nodes c.nodes.length=l at aF;cases l with
   |nil=>exact absurd rfl aF
   |cons a r=>
    have cD:=b3p (d:=false) (H:=[some (.row 2 ((a::r).map lnR))]) (b:=0) (n:=r.length+1) (c1i _) rfl;simp only[c10,lnR]at cD
    (repeat first|simp only[ww]|(apply xa;simp+decide only[go_sem,c1,c10,a05,a06,f4j,cD,lnR];rfl;kernel_rfl))
    (apply fqb;simp+decide only[go_sem,c10,kn,e12,lnR]<;>rfl)
theorem c6c{d:Bool}(H:a03)(c:Cir)(h:c.wf):a0b L.env d (sem L.env Mf) (.func (.func 10) [] []) [.agg c.enc] H=some (.tuple [.islice ((b6c c.nodes).map lnR) (some (b6c c.nodes).length),.int .i64 0],H,[]):=a04 (by kernel_rfl) (by kernel_rfl) rfl (by simp only[e14,f4g,Cir.enc,go_sem]) (d4s c h) (by simp only[a4a,a07,b10,go_sem])
def a4v(x:Nat×Int):AV:=.agg [.int .i64 x.1,.int .i64 x.2]
theorem f5f(a b c d:Int):aeq L.env 6 50 (.agg [.int .i64 a,.int .i64 b]) (.agg [.int .i64 c,.int .i64 d])=some (decide (a=c)&&decide (b=d)):=by
 have h:aeq L.env 6 50 (.agg [.int .i64 a,.int .i64 b]) (.agg [.int .i64 c,.int .i64 d])=some ((a==c)&&((b==d)&&true)):=by kernel_rfl
 rw[h,Bool.and_true];rfl
theorem keyL:KeyOk L.env 93 50 32 a4v:=by
 refine⟨by kernel_rfl,by kernel_rfl,λx=>by kernel_rfl,λx y=>?_,λx=>by simp[a4v,c4l,b7l,b4g]⟩;show aeq L.env 6 50 (.agg [.int .i64 x.1,.int .i64 x.2]) (.agg [.int .i64 y.1,.int .i64 y.2])=_;rw[f5f]
 congr 1
 rw[f9r,d14,f4p,f4p,f4p];exact⟨λ⟨a,b⟩=>Prod.ext (by omega) b,λh=>by rw[h];exact⟨rfl,rfl⟩⟩
theorem b1p(x:Nat×Int):refs (a4v x)=[]:=rfl
theorem f3e:L.env.zero 32=some [.nilslice]:=by kernel_rfl
theorem f3j:∃d,L.env.und 32=some d∧a7y d [.nilslice]=some .nilslice:=⟨.slice 3,by kernel_rfl,rfl⟩
structure Mach(c:Cir)(D:Ded)(es:List ((Nat×Int)×List Nat)):Prop where
 nodes:D.nodes=c.nodes
 ok:D.ok
 fl:D.fs.length≤1000
 nl:c.nodes.length≤1000
 il:∀x∈c.nodes,x.ins.length≤16
 kd:∀x∈c.nodes,x.kind≤14
 at':∀n pin,atE (n,pin) es=(List.range D.fs.length).filter (D.at' n pin)
section
variable {c:Cir}{D:Ded}{es:List ((Nat×Int)×List Nat)}(M:Mach c D es){rl:Rep}{LS:List (List AV)}
include M
theorem Mach.ft{i:Nat}{f:Flt}(hf:D.fs[i]?=some f):D.ft i=f:=by unfold Ded.ft;rw[f8a,hf];rfl
theorem Mach.ins{n:Nat}{x:Nd}(hx:c.nodes[n]?=some x):a15 D.nodes n=x.ins:=by rw[M.nodes];exact a1c hx
theorem Mach.kind{n:Nat}{x:Nd}(hx:c.nodes[n]?=some x):a0e D.nodes n=x.kind:=by rw[M.nodes];exact a0y hx
theorem Mach.inl{n pin m:Nat}{x:Nd}(hx:c.nodes[n]?=some x)(hm:x.ins[pin]?=some m):m<c.nodes.length:=by
 have hn:=(c13.1 hx).1;have:=M.ok.inn n (by rw[M.nodes];exact hn) m (by rw[M.ins hx];exact c11 hm)
 rwa [M.nodes]at this
theorem Mach.gl:D.G.length=c.nodes.length:=by rw[M.ok.G_len,M.nodes]
theorem Mach.inG{n pin m g:Nat}{x:Nd}(hx:c.nodes[n]?=some x)(hm:x.ins[pin]?=some m)(hg:D.G[m]?=some g):D.inG n pin=g:=by unfold Ded.inG;rw[M.ins hx,f8a,f8a,hm,f9l,hg];rfl
theorem e9r{n pin m i:Nat}{x:Nd}{f:Flt}(hx:c.nodes[n]?=some x)(hm:x.ins[pin]?=some m)(hf:D.fs[i]?=some f)(hL:LS[m]?=some [.iset (D.dset m)]) :
 sem L.env Mf 35 [.iptr [sl c.nc (c.nodes.map Nd.enc),sl c.mc (c.names.map a13),.nilslice,sl c.oc (c.outs.map a0a),sl rl (D.fs.map Flt.enc),.islice (D.G.map u8R) (some c.nodes.length),.islice LS (some c.nodes.length),a1t a4v es],.int .i64 n,.int .i64 pin,.int .i64 i] []=some (.bool (D.chg n pin i),[]):=by
 have hn:=(c13.1 hx).1;have bV:=(c13.1 hm).1;have cM:=(c13.1 hf).1;have cH:=M.inl hx hm;have mO:=(c13.1 hL).1;have gI:=M.gl;obtain⟨g,hg⟩:∃g,D.G[m]?=some g:=⟨_,z9e (by omega)⟩
 have jj:m<D.G.length:=by omega
 have dS:=M.inG hx hm hg;have i8:=M.ft hf;by_cases ha:f.node=n∧f.pin=pin
 ·have bg:D.at' n pin i=true:=by unfold Ded.at';rw[i8];simp[ha.1,ha.2]
  have bC:((f.node:Int)==(n:Int)&&f.pin==(pin:Int))=true:=by simp[ha.1,ha.2]
  have hc:D.chg n pin i=decide (f.value≠g):=by unfold Ded.chg;rw[bg,i8,dS];rfl
  rw[hc];by_cases hv:f.value=g
  ·have d1:(f.value:Int)=g:=by omega
   rw[show decide (f.value≠g)=false from by simp[hv]]
   (refine sv Tryz.f35 ?_;simp only[Tryz.f35,gS])
   (repeat first|simp only[ww]|(apply xa;simp+decide only[go_sem,hx,hn,hm,bV,hf,cM,bC,hg,cH,jj,d1,Flt.enc];rfl;kernel_rfl))
   (apply fqb;simp+decide only[go_sem,hv]<;>rfl)
  ·have d1:¬(f.value:Int)=g:=by omega
   rw[show decide (f.value≠g)=true from by simp[hv]]
   (refine sv Tryz.f35 ?_;simp only[Tryz.f35,gS])
   (repeat first|simp only[ww]|(apply xa;simp+decide only[go_sem,hx,hn,hm,bV,hf,cM,bC,hg,cH,jj,d1,Flt.enc];rfl;kernel_rfl))
   (apply fqb;simp+decide only[go_sem,hv]<;>rfl)
 ·have bg:D.at' n pin i=false:=by
   unfold Ded.at';rw[i8,Bool.and_eq_false_iff,g11,g11];rcases Classical.em (f.node=n)with h|h
   ·exact .inr λh2=>ha ⟨h,h2⟩
   ·exact .inl h
  have bC:((f.node:Int)==(n:Int)&&f.pin==(pin:Int))=false:=by
   rw[Bool.and_eq_false_iff,f9i,f9i];rcases Classical.em (f.node=n)with h|h
   ·exact .inr λh2=>ha ⟨h,h2⟩
   ·exact .inl (by omega)
  have hc:D.chg n pin i=D.dif m i:=by unfold Ded.chg;rw[bg,M.ins hx,f8a,hm];rfl
  have hh:(D.dset m).contains (i:Int)=D.dif m i:=d3v cM;rw[hc];generalize D.dset m=S at hL hh;generalize D.dif m i=q at hh
  (refine sv Tryz.f35 ?_;simp only[Tryz.f35,gS])
  (repeat first|simp only[ww]|(apply xa;simp+decide only[go_sem,hx,hn,hm,bV,hf,cM,bC,hg,cH,hL,mO,hh,Flt.enc];rfl;kernel_rfl))
  (apply fqb;simp+decide only[go_sem]<;>rfl)
theorem c8d{d:Bool}(H:a03){n pin m i:Nat}{x:Nd}{f:Flt}(hx:c.nodes[n]?=some x)(hm:x.ins[pin]?=some m)(hf:D.fs[i]?=some f)(hL:LS[m]?=some [.iset (D.dset m)]) :
 a0b L.env d (sem L.env Mf) (.func (.func 35) [] []) [.iptr [sl c.nc (c.nodes.map Nd.enc),sl c.mc (c.names.map a13),.nilslice,sl c.oc (c.outs.map a0a),sl rl (D.fs.map Flt.enc),.islice (D.G.map u8R) (some c.nodes.length),.islice LS (some c.nodes.length),a1t a4v es],.int .i64 n,.int .i64 pin,.int .i64 i] H=some (.bool (D.chg n pin i),H,[]):=
 a04 (by kernel_rfl) (by kernel_rfl) rfl rfl (e9r M hx hm hf hL) rfl
theorem Mach.at_mem{n:Nat}{pin:Int}{i:Nat}:(atE (n,pin) es).contains i=(decide (i<D.fs.length)&&D.at' n pin i):=by rw[M.at',f9r,g0w,f9s,g0y];simp
theorem Mach.at_lt{n:Nat}{pin:Int}{i:Nat}(h:i∈atE (n,pin) es):i<D.fs.length:=by rw[M.at',f9s,g0y]at h;exact h.1
theorem Mach.at_len{n:Nat}{pin:Int}:(atE (n,pin) es).length≤1000:=by rw[M.at'];exact g1v (f9x _ _) (by simpa using M.fl)
omit M in
theorem c02{l:List Nat}{q v i:Nat}(h:l[q]?=some v):(l.take (q+1)).contains i=((l.take q).contains i||decide (i=v)):=by rw[a0v h,f9r,g0t,g0w,g0w,f8n,f6f,f4p]
theorem e2l{n:Nat}{x:Nd}(hx:c.nodes[n]?=some x)(hL:∀m∈x.ins,LS[m]?=some [.iset (D.dset m)]) :
 sem L.env Mf 34 [.iptr [sl c.nc (c.nodes.map Nd.enc),sl c.mc (c.names.map a13),.nilslice,sl c.oc (c.outs.map a0a),sl rl (D.fs.map Flt.enc),.islice (D.G.map u8R) (some c.nodes.length),.islice LS (some c.nodes.length),a1t a4v es],.int .i64 n] []=some (.iset (a1p D.fs.length (D.sm n)),[]):=by
 have hn:=(c13.1 hx).1;have cM:=M.il x (c11 hx);have cG:=M.nl;have gt:=M.ins hx;obtain⟨dd,hd,dB⟩:=f3j;have jk:a1f false 0 (.map 0) [some (.uset (a1p D.fs.length (D.sm n)))]=some (.iset (a1p D.fs.length (D.sm n)),[]):=rfl
 (refine sv Tryz.f34 ?_;simp only[Tryz.f34,gS])
 (repeat first|simp only[ww]|(apply xa;simp+decide only[go_sem,hx,hn];rfl;kernel_rfl))
 refine a0q (σ:=Nat) kp34_0 (λt=>[(0,.iptr [sl c.nc (c.nodes.map Nd.enc),sl c.mc (c.names.map a13),.nilslice,sl c.oc (c.outs.map a0a),sl rl (D.fs.map Flt.enc),.islice (D.G.map u8R) (some c.nodes.length),.islice LS (some c.nodes.length),a1t a4v es]),(1,.int .i64 n),(5,.map 0),(19,sl x.c (x.ins.map a0a)),(20,.int .i64 x.ins.length),(21,.int .i64 t)])
  (λt=>[some (.uset (a1p D.fs.length (D.smT n t)))]) (λt=>x.ins.length-t) (λt=>t≤x.ins.length) 0 ?_ (f4m _) ?_
 ·have e:a1p D.fs.length (D.smT n 0)=[]:=by
   unfold a1p;rw[g1x,List.filter_eq_nil_iff];intro i _;simp[Ded.smT]
  (simp+decide only[go_sem,a02,a00,e]<;>rfl)<;>rfl
 ·intro t ht;by_cases bJ:t<x.ins.length
  ·obtain⟨m,hm⟩:∃m,x.ins[t]?=some m:=⟨_,z9e bJ⟩
   have cH:=M.inl hx hm;have pf:=hL m (c11 hm);have mO:=(c13.1 pf).1;have c1:(t:Int)<x.ins.length:=by omega
   have hw:=wI1 (n:=t) (by omega);have iH:=λ(d:Bool) (X:a03)=>c43 (d:=d) (some (.uset (a1p D.fs.length (D.smT n t)))::X) 0 D.fs.length (D.smT n t) (D.dif m) rfl;rw[show a1p D.fs.length (D.dif m)=D.dset m from rfl]at iH;obtain⟨rr,cg⟩:=keyL.ilook f3e hd dB es (n,(t:Int));have cg:∀h,a2f L.env h 93 (a1t a4v es) (.agg [.int .i64 n,.int .i64 t]) false=some (sl rr ((atE (n,(t:Int)) es).map a0a)):=cg;have ah:=λi=>M.at_lt (n:=n) (pin:=(t:Int)) (i:=i);have aQ:=M.at_len (n:=n) (pin:=(t:Int));have bg:=λi=>M.at_mem (n:=n) (pin:=(t:Int)) (i:=i);generalize atE (n,(t:Int)) es=l at cg ah aQ bg;have n8:∀i,i<D.fs.length→(D.smT n t i||D.dif m i||(l.take l.length).contains i)=D.smT n (t+1) i:=by intro i hi;rw[f6i,bg,f8b hi,f9p];unfold Ded.smT;rw[f9k,List.any_append,gt];simp[f8a,hm,Bool.or_assoc]
   have hS:=a19 (p:=λi=>D.smT n t i||D.dif m i||(l.take l.length).contains i) n8;generalize D.dset m=S at pf iH;have eu:refs (a1t a4v es)=[]:=rfl
   (repeat first|simp only[ww]|(apply xa;simp+decide only[go_sem,c1,bJ,hm,pf,mO,cH,iH,cg];rfl;kernel_rfl))
   refine a0q (σ:=Nat) kp34_2 (λq=>[(0,.iptr [sl c.nc (c.nodes.map Nd.enc),sl c.mc (c.names.map a13),.nilslice,sl c.oc (c.outs.map a0a),sl rl (D.fs.map Flt.enc),.islice (D.G.map u8R) (some c.nodes.length),.islice LS (some c.nodes.length),a1t a4v es]),(1,.int .i64 n),(5,.map 0),(19,sl x.c (x.ins.map a0a)),(20,.int .i64 x.ins.length),(21,.int .i64 t),(42,sl rr (l.map a0a)),(43,.int .i64 l.length),(44,.int .i64 q)])
    (λq=>[some (.uset (a1p D.fs.length λi=>D.smT n t i||D.dif m i||(l.take q).contains i))]) (λq=>l.length-q) (λq=>q≤l.length) 0 ?_ (f4m _) ?_
   ·have e:(a1p D.fs.length λi=>D.smT n t i||D.dif m i||([]:List Nat).contains i)=a1p D.fs.length λi=>D.smT n t i||D.dif m i:=a19 λi _=>by simp
    (simp+decide only[go_sem,a02,a00,e,eu]<;>rfl)<;>rfl
   ·intro q hq;by_cases eQ:q<l.length
    ·obtain⟨v,hv⟩:∃v,l[q]?=some v:=⟨_,z9e eQ⟩
     have d1:(q:Int)<l.length:=by omega
     have lW:=wI1 (n:=q) (by omega);have jd:=ah v (c11 hv);have e1:=b6k (q:=λi=>D.smT n t i||D.dif m i||(l.take q).contains i) jd;have e2:(a1p D.fs.length λi=>D.smT n t i||D.dif m i||(l.take q).contains i||decide (i=v))=a1p D.fs.length λi=>D.smT n t i||D.dif m i||(l.take (q+1)).contains i:=a19 λi _=>by rw[c02 hv,Bool.or_assoc (D.smT n t i||D.dif m i)]
     rw[e2]at e1
     (repeat first|simp only[ww]|(apply xa;simp+decide only[go_sem,d1,eQ,hv,lW,e1];rfl;kernel_rfl))
     refine a21 (q+1) ?_ (by omega) (by omega)
     (simp+decide only[go_sem,a02,a00,eu]<;>rfl)<;>rfl
    ·obtain rfl:q=l.length:=by omega
     have d1:¬(l.length:Int)<l.length:=by omega
     rw[hS]
     (repeat first|simp only[ww]|(apply xa;simp+decide only[go_sem,d1,hw];rfl;kernel_rfl))
     refine a21 (t+1) ?_ (by omega) (by omega)
     (simp+decide only[go_sem,a02,a00,eu]<;>rfl)<;>rfl
  ·obtain rfl:t=x.ins.length:=by omega
   have c1:¬(x.ins.length:Int)<x.ins.length:=by omega
   have e:D.smT n x.ins.length=D.sm n:=by unfold Ded.sm;rw[gt]
   rw[e]
   (repeat first|simp only[ww]|(apply xa;simp+decide only[go_sem,c1];rfl;kernel_rfl))
   (apply fqb;simp+decide only[go_sem,jk]<;>rfl)
theorem c2f{d:Bool}(H:a03){n:Nat}{x:Nd}(hx:c.nodes[n]?=some x)(hL:∀m∈x.ins,LS[m]?=some [.iset (D.dset m)]) :
 a0b L.env d (sem L.env Mf) (.func (.func 34) [] []) [.iptr [sl c.nc (c.nodes.map Nd.enc),sl c.mc (c.names.map a13),.nilslice,sl c.oc (c.outs.map a0a),sl rl (D.fs.map Flt.enc),.islice (D.G.map u8R) (some c.nodes.length),.islice LS (some c.nodes.length),a1t a4v es],.int .i64 n] H=some (.iset (a1p D.fs.length (D.sm n)),H,[]):=
 a04 (by kernel_rfl) (by kernel_rfl) rfl rfl (e2l M hx hL) rfl
theorem d92{d:Bool}{H:a03}{b k:Nat}{l:List Nat}(hk:k<16)(hl:l.length<1000000)(hb:a01 H b=some (.row 1 (l.map u8R))) :
 a0b L.env d (sem L.env Mf) (.func (.func 25) [] []) [.int .u8 k,.slice b 0 l.length none] H=some (.int .u8 (a4d k l:Nat),H,[b]):=by
 have hf:FlatR (l.map u8R++[]):=by rw[f4g];exact a1r l
 have h0:=b1x k hk l _ _ (RA.blk none [] hf) hl;rw[f4g]at hf h0;have h:=a60 (E:=L.env) (ag:=d) (call:=sem L.env Mf) (g:=25) (fs:=[]) (cs:=[]) (ar:=[.int .u8 k,.slice b 0 l.length none]) (H:=H) (b:=b) (by kernel_rfl) (by kernel_rfl) rfl hb (a0r hf) (FlatO.row hf) (by simp only[e14,f4g,a07,a87,go_sem]) (au:=[.int .u8 k,.slice 0 0 l.length none]) (by simp only[e14,f4g,c10,f4h,a20,go_sem]) h0 (FlatO.row hf) rfl;rw[a8k hb]at h;exact h
theorem e53{d:Bool}{H:a03}{k:Nat}(hk:k<16):a0b L.env d (sem L.env Mf) (.func (.func 25) [] []) [.int .u8 k,.nilslice] H=some (.int .u8 (a4d k []:Nat),H,[]):=a04 (by kernel_rfl) (by kernel_rfl) rfl rfl (b1x k hk [] _ _ (RA.imm none) (by simp)) rfl
theorem e7x{n i:Nat}{x:Nd}{f:Flt}(hx:c.nodes[n]?=some x)(hf:D.fs[i]?=some f)(hk:D.comb n=true)(hL:∀m∈x.ins,LS[m]?=some [.iset (D.dset m)]) :
 sem L.env Mf 106 [.int .i64 i,.ptr 0 0 0,.ptr 1 0 0,.ptr 2 0 0] [some (.row 1 [[.iptr [sl c.nc (c.nodes.map Nd.enc),sl c.mc (c.names.map a13),.nilslice,sl c.oc (c.outs.map a0a),sl rl (D.fs.map Flt.enc),.islice (D.G.map u8R) (some c.nodes.length),.islice LS (some c.nodes.length),a1t a4v es]]]),some (.row 1 [[.int .i64 n]]),some (.row 1 [[.int .u8 x.kind]])]=some (.int .u8 (D.evB n i:Nat),[some (.row 1 [[.iptr [sl c.nc (c.nodes.map Nd.enc),sl c.mc (c.names.map a13),.nilslice,sl c.oc (c.outs.map a0a),sl rl (D.fs.map Flt.enc),.islice (D.G.map u8R) (some c.nodes.length),.islice LS (some c.nodes.length),a1t a4v es]]]),some (.row 1 [[.int .i64 n]]),some (.row 1 [[.int .u8 x.kind]])]):=by
 have hn:=(c13.1 hx).1;have pD:n<D.nodes.length:=by rw[M.nodes];exact hn
 have aY:=(c13.1 hf).1;have cM:=M.il x (c11 hx);have lD:=M.kd x (c11 hx);have gI:=M.gl;have gt:=M.ins hx;have eu:refs (a1t a4v es)=[]:=rfl;have dp:=M.ok.reads aY pD;rw[gt]at dp;have eh:D.evB n i=a4d x.kind ((List.range x.ins.length).map λpin=>if D.chg n pin i then a9a (D.inG n pin)else D.inG n pin):=by show a4d (a0e D.nodes n) (List.map a2i _)=_;rw[M.kind hx,dp,a9v];intro v hv;rw[←dp]at hv;have:=M.ok.rds_bit (e99 (M.ok.val aY)) (M.ok.B_len _) (M.ok.B_bit (M.ok.val aY)) n _ 0 (M.ok.inn n pD) v hv;omega
 rw[eh];generalize hvf:(λpin=>if D.chg n pin i then a9a (D.inG n pin)else D.inG n pin)=vf;have fS:∀l:List Nat,(l.map u8R).flatMap a0l=[]:=λl=>a0f (a1r l);have d6:∀(π:Nat→Option Nat) (l:List Nat),(l.map u8R).map (λr=>r.map (ren π))=l.map u8R:=λπ l=>a0c π (a1r l);have e8:∀π,ren π (a1t a4v es)=a1t a4v es:=λπ=>a14 π _ rfl
 (refine sv Tryz.f106 ?_;simp only[Tryz.f106,gS])
 (repeat first|simp only[ww]|(apply xa;simp+decide only[go_sem,hx,hn];rfl;kernel_rfl))
 refine a0q (σ:=Nat) kp106_0 (λt=>[(0,.int .i64 i),(1,.ptr 0 0 0),(2,.ptr 1 0 0),(3,.ptr 2 0 0),(6,grV 3 (((List.range t).map vf).map u8R)),(18,sl x.c (x.ins.map a0a)),(19,.int .i64 x.ins.length),(20,.int .i64 t)])
  (λt=>[some (.row 1 [[.iptr [sl c.nc (c.nodes.map Nd.enc),sl c.mc (c.names.map a13),.nilslice,sl c.oc (c.outs.map a0a),sl rl (D.fs.map Flt.enc),.islice (D.G.map u8R) (some c.nodes.length),.islice LS (some c.nodes.length),a1t a4v es]]]),some (.row 1 [[.int .i64 n]]),some (.row 1 [[.int .u8 x.kind]])]++grH 1 (((List.range t).map vf).map u8R)) (λt=>x.ins.length-t) (λt=>t≤x.ins.length) 0 ?_ (f4m _) ?_
 ·have e:((List.range 0).map vf).map u8R=[]:=rfl
  (simp+decide only[go_sem,a02,a00,e,a0g,a0h,eu,e8]<;>rfl)<;>rfl
 ·intro t ht;have tE:((List.range t).map vf).length=t:=by simp
  by_cases bJ:t<x.ins.length
  ·obtain⟨m,hm⟩:∃m,x.ins[t]?=some m:=⟨_,z9e bJ⟩
   have cH:=M.inl hx hm;have pf:=hL m (c11 hm);obtain⟨g,hg⟩:∃g,D.G[m]?=some g:=⟨_,z9e (by omega)⟩
   have jj:m<D.G.length:=by omega
   have c1:(t:Int)<x.ins.length:=by omega
   have hw:=wI1 (n:=t) (by omega);have iI:=λ(d:Bool) (H:a03)=>c8d (rl:=rl) (d:=d) M H hx hm hf pf;have ux:vf t=if D.chg n t i then a9a g else g:=by rw[←hvf,←M.inG hx hm hg]
   have gj:(List.range (t+1)).map vf=(List.range t).map vf++[vf t]:=by rw[f9k,f6c];rfl
   rw[ux]at gj;generalize(List.range t).map vf=V at gj tE;have aE:V.length+1≤1000000000:=by omega
   cases hq:D.chg n t i with
   |false=>
    rw[hq,f4n (by simp)]at gj;rw[hq]at iI;cases V with
    |nil=>
     (repeat first|simp only[ww]|(apply xa;simp+decide only[go_sem,c1,bJ,hm,hg,jj,cH,iI,f4h,a0g,a0h,hw];rfl;kernel_rfl))
     refine a21 (t+1) ?_ (by omega) (by omega);simp only[gj]
     (simp+decide only[go_sem,a02,a00,e14,c10,f4h,a05,a06,u8R,f4o,eu,e8]<;>rfl)<;>rfl
    |cons a r=>
     simp only[e12]at aE
     (repeat first|simp only[ww]|(apply xa;simp+decide only[go_sem,c1,bJ,hm,hg,jj,cH,iI,c10,a05,a06,aE,f4j,hw];rfl;kernel_rfl))
     refine a21 (t+1) ?_ (by omega) (by omega);simp only[gj]
     (simp+decide only[go_sem,a02,a00,f6a,c10,f6c,f4h,a05,a06,fS,d6,u8R,f4j,f5z,e12,f4o,eu,e8]<;>rfl)<;>rfl
   |true=>
    rw[hq,f6e rfl]at gj;rw[hq]at iI;have iw:=λ(d:Bool) (H:a03)=>c37 (d:=d) H g;cases V with
    |nil=>
     (repeat first|simp only[ww]|(apply xa;simp+decide only[go_sem,c1,bJ,hm,hg,jj,cH,iI,iw,f4h,a0g,a0h,hw];rfl;kernel_rfl))
     refine a21 (t+1) ?_ (by omega) (by omega);simp only[gj]
     (simp+decide only[go_sem,a02,a00,e14,c10,f4h,a05,a06,u8R,f4o,eu,e8]<;>rfl)<;>rfl
    |cons a r=>
     simp only[e12]at aE
     (repeat first|simp only[ww]|(apply xa;simp+decide only[go_sem,c1,bJ,hm,hg,jj,cH,iI,iw,c10,a05,a06,aE,f4j,hw];rfl;kernel_rfl))
     refine a21 (t+1) ?_ (by omega) (by omega);simp only[gj]
     (simp+decide only[go_sem,a02,a00,f6a,c10,f6c,f4h,a05,a06,fS,d6,u8R,f4j,f5z,e12,f4o,eu,e8]<;>rfl)<;>rfl
  ·obtain rfl:t=x.ins.length:=by omega
   have c1:¬(x.ins.length:Int)<x.ins.length:=by omega
   generalize(List.range x.ins.length).map vf=V at tE;have bh:∀(v:Nat) (R:a03),a1f false 3 (.int .u8 v) ([some (.row 1 [[.iptr [sl c.nc (c.nodes.map Nd.enc),sl c.mc (c.names.map a13),.nilslice,sl c.oc (c.outs.map a0a),sl rl (D.fs.map Flt.enc),.islice (D.G.map u8R) (some c.nodes.length),.islice LS (some c.nodes.length),a1t a4v es]]]),some (.row 1 [[.int .i64 n]]),some (.row 1 [[.int .u8 x.kind]])]++R)=some (.int .u8 v,[some (.row 1 [[.iptr [sl c.nc (c.nodes.map Nd.enc),sl c.mc (c.names.map a13),.nilslice,sl c.oc (c.outs.map a0a),sl rl (D.fs.map Flt.enc),.islice (D.G.map u8R) (some c.nodes.length),.islice LS (some c.nodes.length),a1t a4v es]]]),some (.row 1 [[.int .i64 n]]),some (.row 1 [[.int .u8 x.kind]])]):=λv R=>by simp+decide only[go_sem,a1f,eu,e8]<;>rfl
   cases V with
   |nil=>
    have a7:=λ(d:Bool) (H:a03)=>e53 M (d:=d) (H:=H) (k:=x.kind) (by omega)
    (repeat first|simp only[ww]|(apply xa;simp+decide only[go_sem,c1,a7,f4h,a0g,a0h];rfl;kernel_rfl))
    refine a7j (vs:=[.int .u8 _]) (by simp+decide only[go_sem]<;>rfl) (bh _ [])
   |cons a r=>
    have a7:=λ(d:Bool) (a0 a1 a2:Option AObj)=>d92 M (d:=d) (H:=[a0,a1,a2,some (.row 1 ((a::r).map u8R))]) (b:=3) (k:=x.kind) (l:=a::r) (by omega) (by omega) rfl;simp only[c10,e12,u8R]at a7
    (repeat first|simp only[ww]|(apply xa;simp+decide only[go_sem,c1,a7,c10,a05,a06,f4j];rfl;kernel_rfl))
    refine a7j (vs:=[.int .u8 _]) (by simp+decide only[go_sem]<;>rfl) (bh _ [_])
end
section
variable {c:Cir}{D:Ded}{es:List ((Nat×Int)×List Nat)}(M:Mach c D es){rl:Rep}{LS:List (List AV)}
include M
theorem d6b{d:Bool}(X:Option AObj)(R:a03){n i:Nat}{x:Nd}{f:Flt}(hx:c.nodes[n]?=some x)(hf:D.fs[i]?=some f)(hk:D.comb n=true)(hL:∀m∈x.ins,LS[m]?=some [.iset (D.dset m)]) :
 a0b L.env d (sem L.env Mf) (.func (.func 106) [] [.ptr 0 0 0,.ptr 1 0 0,.ptr 3 0 0]) [.int .i64 i] (some (.row 1 [[.iptr [sl c.nc (c.nodes.map Nd.enc),sl c.mc (c.names.map a13),.nilslice,sl c.oc (c.outs.map a0a),sl rl (D.fs.map Flt.enc),.islice (D.G.map u8R) (some c.nodes.length),.islice LS (some c.nodes.length),a1t a4v es]]])::some (.row 1 [[.int .i64 n]])::X::some (.row 1 [[.int .u8 x.kind]])::R)=some (.int .u8 (D.evB n i:Nat),some (.row 1 [[.iptr [sl c.nc (c.nodes.map Nd.enc),sl c.mc (c.names.map a13),.nilslice,sl c.oc (c.outs.map a0a),sl rl (D.fs.map Flt.enc),.islice (D.G.map u8R) (some c.nodes.length),.islice LS (some c.nodes.length),a1t a4v es]]])::some (.row 1 [[.int .i64 n]])::X::some (.row 1 [[.int .u8 x.kind]])::R,[0,1,3]):=
 a4e [0,1,3] (by kernel_rfl) (by kernel_rfl) rfl (by simp+decide only[go_sem]) rfl (by simp) (by intro b hb;simp only[f6m,List.not_mem_nil,or_false]at hb;rcases hb with rfl|rfl|rfl<;>exact FlatO.row (FlatR.cons rfl FlatR.nil)) rfl rfl (e7x M hx hf hk hL) rfl
theorem e3w{n:Nat}{x:Nd}(hx:c.nodes[n]?=some x)(hL:D.comb n=true→∀m∈x.ins,LS[m]?=some [.iset (D.dset m)]) :
 ∃r:AV×a03,r=(.map 2,[some (.row 1 [[.iptr [sl c.nc (c.nodes.map Nd.enc),sl c.mc (c.names.map a13),.nilslice,sl c.oc (c.outs.map a0a),sl rl (D.fs.map Flt.enc),.islice (D.G.map u8R) (some c.nodes.length),.islice LS (some c.nodes.length),a1t a4v es]]]),some (.row 1 [[.int .i64 n]]),some (.uset (D.dset n))])∧sem L.env Mf 68 [.iptr [sl c.nc (c.nodes.map Nd.enc),sl c.mc (c.names.map a13),.nilslice,sl c.oc (c.outs.map a0a),sl rl (D.fs.map Flt.enc),.islice (D.G.map u8R) (some c.nodes.length),.islice LS (some c.nodes.length),a1t a4v es],.int .i64 n] []=some r:=by
 have hn:=(c13.1 hx).1;have pD:n<D.nodes.length:=by rw[M.nodes];exact hn
 have gI:=M.gl;have lD:=M.kind hx;have eu:refs (a1t a4v es)=[]:=rfl;have e8:∀π,ren π (a1t a4v es)=a1t a4v es:=λπ=>a14 π _ rfl;obtain⟨g,hg⟩:∃g,D.G[n]?=some g:=⟨_,z9e (by omega)⟩
 have jj:n<D.G.length:=by omega
 have kN:D.G.getD n 0=g:=by rw[f8a,hg];rfl
 obtain⟨dd,hd,dB⟩:=f3j;obtain⟨rr,cg⟩:=keyL.ilook f3e hd dB es (n,(-1:Int));have cg:∀h,a2f L.env h 93 (a1t a4v es) (.agg [.int .i64 n,.int .i64 (-1)]) false=some (sl rr ((atE (n,(-1:Int)) es).map a0a)):=cg;have ah:=λi=>M.at_lt (n:=n) (pin:=(-1:Int)) (i:=i);have aQ:=M.at_len (n:=n) (pin:=(-1:Int));have bg:=λi=>M.at_mem (n:=n) (pin:=(-1:Int)) (i:=i);generalize atE (n,(-1:Int)) es=l at cg ah aQ bg
 -- what is left behind the node's own lines
 let q (t i:Nat):Bool:=bif (l.take t).contains i then decide ((D.ft i).value≠g)else D.out1 n i
 obtain⟨O,hO⟩:∃O,a1p D.fs.length (D.out1 n)=O:=⟨_,rfl⟩
 have uH:(a1p D.fs.length λi=>q 0 i)=O:=by rw[←hO];exact a19 λi _=>by simp[q]
 have uG:(a1p D.fs.length λi=>q l.length i)=D.dset n:=by rw[M.ok.list pD];refine a19 λi hi=>?_;show(bif (l.take l.length).contains i then _ else _)=_;rw[f6i,bg,f8b hi,f9p,kN]
 have uF:∀(t v:Nat),l[t]?=some v→v<D.fs.length→(bif decide ((D.ft v).value≠g)then a1p D.fs.length λi=>(q t i && !decide (i=v))||decide (i=v)else a1p D.fs.length λi=>q t i && !decide (i=v))=a1p D.fs.length λi=>q (t+1) i:=by
  intro t v hv jd;have e:∀i,q (t+1) i=if i=v then decide ((D.ft v).value≠g)else q t i:=by
   intro i;show(bif (l.take (t+1)).contains i then _ else _)=_;rw[c02 hv];by_cases eI:i=v
   ·subst eI;simp
   ·rw[f9e eI,Bool.or_false,f4n eI]
  cases hb:decide ((D.ft v).value≠g)with
  |true=>
   refine a19 λi hi=>?_;rw[e];by_cases eI:i=v
   ·subst eI;simp[hb]
   ·simp[eI]
  |false=>
   refine a19 λi hi=>?_;rw[e];by_cases eI:i=v
   ·subst eI;simp[hb]
   ·simp[eI]
 have wn:∀b,D.comb n=b→(decide (x.kind≠0)&&decide (x.kind≠14))=b:=by intro b hb;rw[←hb];unfold Ded.comb;rw[lD]
 have bh:∀(H:a03),H=[some (.row 1 [[.iptr [sl c.nc (c.nodes.map Nd.enc),sl c.mc (c.names.map a13),.nilslice,sl c.oc (c.outs.map a0a),sl rl (D.fs.map Flt.enc),.islice (D.G.map u8R) (some c.nodes.length),.islice LS (some c.nodes.length),a1t a4v es]]]),some (.row 1 [[.int .i64 n]]),some (.uset (D.dset n))]→((AV.map 2,H):AV×a03)=(.map 2,[some (.row 1 [[.iptr [sl c.nc (c.nodes.map Nd.enc),sl c.mc (c.names.map a13),.nilslice,sl c.oc (c.outs.map a0a),sl rl (D.fs.map Flt.enc),.islice (D.G.map u8R) (some c.nodes.length),.islice LS (some c.nodes.length),a1t a4v es]]]),some (.row 1 [[.int .i64 n]]),some (.uset (D.dset n))]):=λH h=>by rw[h]
 have tH:D.comb n=false→O=[]:=by intro hc;rw[←hO];unfold a1p;rw[g1x,List.filter_eq_nil_iff];intro i _;unfold Ded.out1;rw[hc];simp
 rcases(by omega:x.kind=0∨x.kind=14∨(x.kind≠0∧x.kind≠14))with h0|h0|h0
 case' inl=>(
  have hc:D.comb n=false:=by unfold Ded.comb;rw[lD,h0];rfl
  have rO:=tH hc;have d0:(x.kind:Int)=0:=by omega
  subst rO
  (refine svE Tryz.f68 ?_;simp only[Tryz.f68,gS])
  (repeat first|simp only[ww]|(apply xa;simp+decide only[go_sem,hx,hn,d0,cg];rfl;kernel_rfl)))
 case' inr.inl=>(
  have hc:D.comb n=false:=by unfold Ded.comb;rw[lD,h0];rfl
  have rO:=tH hc;have d0:¬(x.kind:Int)=0:=by omega
  have rX:(x.kind:Int)=14:=by omega
  subst rO
  (refine svE Tryz.f68 ?_;simp only[Tryz.f68,gS])
  (repeat first|simp only[ww]|(apply xa;simp+decide only[go_sem,hx,hn,d0,rX,cg];rfl;kernel_rfl)))
 case' inr.inr=>(
  have hc:D.comb n=true:=by unfold Ded.comb;rw[lD];simp[h0.1,h0.2]
  have hL:=hL hc;have d0:¬(x.kind:Int)=0:=by omega
  have rX:¬(x.kind:Int)=14:=by omega
  have n8:=λ(d:Bool) (H:a03)=>c2f (rl:=rl) (d:=d) M H hx hL;have ho:∀i,i<D.fs.length→(D.sm n i&&decide (D.evB n i≠g))=D.out1 n i:=by intro i hi;unfold Ded.out1;rw[hc,kN,f9p]
  (refine svE Tryz.f68 ?_;simp only[Tryz.f68,gS])
  (repeat first|simp only[ww]|(apply xa;simp+decide only[go_sem,hx,hn,d0,rX,n8];rfl;kernel_rfl))
  refine d15 kp68_0 (a1p D.fs.length (D.sm n)) (λV=>[(2,.ptr 0 0 0),(3,.ptr 1 0 0),(5,.map 2),(7,.func (.func 106) [] [.ptr 0 0 0,.ptr 1 0 0,.ptr 3 0 0]),(31,.ptr 4 0 0)])
   (λV=>[some (.row 1 [[.iptr [sl c.nc (c.nodes.map Nd.enc),sl c.mc (c.names.map a13),.nilslice,sl c.oc (c.outs.map a0a),sl rl (D.fs.map Flt.enc),.islice (D.G.map u8R) (some c.nodes.length),.islice LS (some c.nodes.length),a1t a4v es]]]),some (.row 1 [[.int .i64 n]]),some (.uset (a1p D.fs.length λk=>met V k&&decide (D.evB n k≠g))),some (.row 1 [[.int .u8 x.kind]]),some (.miter (a1p D.fs.length (D.sm n)) V none)]) 4 (.exit 0)
   [(33,.bool false),(32,.tuple [.bool false]),(2,.ptr 0 0 0),(3,.ptr 1 0 0),(5,.map 2),(7,.func (.func 106) [] [.ptr 0 0 0,.ptr 1 0 0,.ptr 3 0 0]),(31,.ptr 4 0 0)] [some (.row 1 [[.iptr [sl c.nc (c.nodes.map Nd.enc),sl c.mc (c.names.map a13),.nilslice,sl c.oc (c.outs.map a0a),sl rl (D.fs.map Flt.enc),.islice (D.G.map u8R) (some c.nodes.length),.islice LS (some c.nodes.length),a1t a4v es]]]),some (.row 1 [[.int .i64 n]]),some (.uset O),some (.row 1 [[.int .u8 x.kind]]),none] (b3d _ _) ?a0 ?a1 ?a2 ?a3 ?a4
  case a0=>
   have e:(a1p D.fs.length λk=>met [] k&&decide (D.evB n k≠g))=[]:=by unfold a1p;rw[g1x,List.filter_eq_nil_iff];intro i _;simp[c5p]
   (simp+decide only[go_sem,a02,a00,e,eu,e8]<;>rfl)<;>rfl
  case a1=>intro V _ _;exact⟨rfl,none,rfl⟩
  case a2=>
   intro V i h1 h2 h3 h4;obtain⟨j,rfl,hj,_⟩:=b0j.1 h3;obtain⟨f,hf⟩:∃f,D.fs[j]?=some f:=⟨_,z9e hj⟩
   have dh:=λ(d:Bool) (X:Option AObj) (R:a03)=>d6b (rl:=rl) (d:=d) M X R hx hf hc hL;by_cases hv:D.evB n j=g
   ·have d1:(D.evB n j:Int)=g:=by omega
    have e2:(a1p D.fs.length λk=>met V k&&decide (D.evB n k≠g))=a1p D.fs.length λk=>met (V++[(j:Int)]) k&&decide (D.evB n k≠g):=a19 λk _=>by
     rw[b1v];by_cases hk:k=j
     ·subst hk;simp[hv]
     ·simp[hk]
    refine xq (by simp+decide only[go_sem]<;>rfl) ?_;rw[e2]
    (repeat first|simp only[ww]|(apply xa;simp+decide only[go_sem,dh,hn,hg,jj,d1];rfl;kernel_rfl))
    show gcD _ _ _ _=_
    (simp+decide only[go_sem,a02,a00,eu,e8]<;>rfl)<;>rfl
   ·have d1:¬(D.evB n j:Int)=g:=by omega
    have e1:=b6k (q:=λk=>met V k&&decide (D.evB n k≠g)) hj;have e2:(a1p D.fs.length λk=>met V k&&decide (D.evB n k≠g)||decide (k=j))=a1p D.fs.length λk=>met (V++[(j:Int)]) k&&decide (D.evB n k≠g):=a19 λk _=>by
     rw[b1v];by_cases hk:k=j
     ·subst hk;simp[hv]
     ·simp[hk]
    rw[e2]at e1;refine xq (by simp+decide only[go_sem]<;>rfl) ?_
    (repeat first|simp only[ww]|(apply xa;simp+decide only[go_sem,dh,hn,hg,jj,d1,e1];rfl;kernel_rfl))
    show gcD _ _ _ _=_
    (simp+decide only[go_sem,a02,a00,eu,e8]<;>rfl)<;>rfl
  case a3=>
   intro V hV;have e:(a1p D.fs.length λk=>met V k&&decide (D.evB n k≠g))=O:=by rw[←hO];exact a19 λk hk=>by rw[c0w hV hk,ho k hk]
   refine xq (by simp+decide only[go_sem]<;>rfl) ?_;rw[e]
   (repeat first|simp only[ww]|(apply xa;simp+decide only[go_sem];rfl;kernel_rfl))
   exact⟨rfl,rfl,rfl⟩
  (repeat first|simp only[ww]|(apply xa;simp+decide only[go_sem,cg];rfl;kernel_rfl)))
 all_goals (
  refine a0q (σ:=Nat) kp68_2 (λt=>[(2,.ptr 0 0 0),(3,.ptr 1 0 0),(5,.map 2),(55,sl rr (l.map a0a)),(56,.int .i64 l.length),(57,.int .i64 t)])
   (λt=>[some (.row 1 [[.iptr [sl c.nc (c.nodes.map Nd.enc),sl c.mc (c.names.map a13),.nilslice,sl c.oc (c.outs.map a0a),sl rl (D.fs.map Flt.enc),.islice (D.G.map u8R) (some c.nodes.length),.islice LS (some c.nodes.length),a1t a4v es]]]),some (.row 1 [[.int .i64 n]]),some (.uset (a1p D.fs.length λi=>q t i))]) (λt=>l.length-t) (λt=>t≤l.length) 0 ?_ (f4m _) ?_
  ·simp only[uH]
   (simp+decide only[go_sem,a02,a00,eu,e8]<;>rfl)<;>rfl
  ·intro t ht;by_cases bJ:t<l.length
   ·obtain⟨v,hv⟩:∃v,l[t]?=some v:=⟨_,z9e bJ⟩
    have jd:=ah v (c11 hv);obtain⟨f,hf⟩:∃f,D.fs[v]?=some f:=⟨_,z9e jd⟩
    have c1:(t:Int)<l.length:=by omega
    have hw:=wI1 (n:=t) (by omega);have e1:=e55 (m:=D.fs.length) (j:=v) (q:=λi=>q t i);have hs:=uF t v hv jd;rw[M.ft hf]at hs;by_cases iE:f.value=g
    ·have d1:(f.value:Int)=g:=by omega
     rw[show decide (f.value≠g)=false from by simp[iE]]at hs;simp only[f7z]at hs;rw[hs]at e1
     (repeat first|simp only[ww]|(apply xa;simp+decide only[go_sem,c1,bJ,hv,hf,jd,e1,d1,hn,hg,jj,Flt.enc,hw];rfl;kernel_rfl))
     refine a21 (t+1) ?_ (by omega) (by omega)
     (simp+decide only[go_sem,a02,a00,eu,e8]<;>rfl)<;>rfl
    ·have d1:¬(f.value:Int)=g:=by omega
     rw[show decide (f.value≠g)=true from by simp[iE]]at hs;simp only[f6g]at hs;have e2:=b6k (q:=λi=>q t i && !decide (i=v)) jd;rw[hs]at e2
     (repeat first|simp only[ww]|(apply xa;simp+decide only[go_sem,c1,bJ,hv,hf,jd,e1,e2,d1,hn,hg,jj,Flt.enc,hw];rfl;kernel_rfl))
     refine a21 (t+1) ?_ (by omega) (by omega)
     (simp+decide only[go_sem,a02,a00,eu,e8]<;>rfl)<;>rfl
   ·obtain rfl:t=l.length:=by omega
    have c1:¬(l.length:Int)<l.length:=by omega
    rw[uG]
    (repeat first|simp only[ww]|(apply xa;simp+decide only[go_sem,c1];rfl;kernel_rfl))
    refine a5l (vs:=[.map 2]) (r:=(.map 2,_)) (by simp+decide only[go_sem]<;>rfl) rfl (bh _ ?_);rfl)
theorem d33{d:Bool}{H:a03}{V:AV}{n:Nat}{x:Nd}(hx:c.nodes[n]?=some x)(hL:D.comb n=true→∀m∈x.ins,LS[m]?=some [.iset (D.dset m)])(hV:a4j 0 false (a54 (a01 H) 0 12) V=some (.iptr [sl c.nc (c.nodes.map Nd.enc),sl c.mc (c.names.map a13),.nilslice,sl c.oc (c.outs.map a0a),sl rl (D.fs.map Flt.enc),.islice (D.G.map u8R) (some c.nodes.length),.islice LS (some c.nodes.length),a1t a4v es])) :
 a0b L.env d (sem L.env Mf) (.func (.func 68) [] []) [V,.int .i64 n] H=some (.iset (D.dset n),H,List.range H.length):=by
 obtain⟨r,rfl,hr⟩:=e3w (rl:=rl) M hx hL;refine b3q (args:=[V,.int .i64 n]) (au:=[.iptr [sl c.nc (c.nodes.map Nd.enc),sl c.mc (c.names.map a13),.nilslice,sl c.oc (c.outs.map a0a),sl rl (D.fs.map Flt.enc),.islice (D.G.map u8R) (some c.nodes.length),.islice LS (some c.nodes.length),a1t a4v es],.int .i64 n]) (by kernel_rfl) (by kernel_rfl) rfl ?_ hr rfl ?_
 ·rw[a3n,hV];rfl
 ·have hc:a7w [some (.row 1 [[.iptr [sl c.nc (c.nodes.map Nd.enc),sl c.mc (c.names.map a13),.nilslice,sl c.oc (c.outs.map a0a),sl rl (D.fs.map Flt.enc),.islice (D.G.map u8R) (some c.nodes.length),.islice LS (some c.nodes.length),a1t a4v es]]]),some (.row 1 [[.int .i64 n]]),some (.uset (D.dset n))] 2=some (.uset (D.dset n)):=rfl;show(a54 (a7w [some (.row 1 [[.iptr [sl c.nc (c.nodes.map Nd.enc),sl c.mc (c.names.map a13),.nilslice,sl c.oc (c.outs.map a0a),sl rl (D.fs.map Flt.enc),.islice (D.G.map u8R) (some c.nodes.length),.islice LS (some c.nodes.length),a1t a4v es]]]),some (.row 1 [[.int .i64 n]]),some (.uset (D.dset n))]) 0 12 (.map 2))=_;exact c3v (by omega) hc
end
structure DCalls(c:Cir)(p:Pat)(D:Ded):Prop where
 lines:∃V,∀(d:Bool) (H:a03),a0b L.env d (sem L.env Mf) (.func (.func 10) [] []) [.agg [sl c.nc (c.nodes.map Nd.enc),sl c.mc (c.names.map a13),.nilslice,sl c.oc (c.outs.map a0a)]] H=some (.tuple [V,.int .i64 0],H,[])
 fck:∀f∈D.fs,∀(d:Bool) (H:a03),a0b L.env d (sem L.env Mf) (.func (.func 75) [] []) [.agg [sl c.nc (c.nodes.map Nd.enc),sl c.mc (c.names.map a13),.nilslice,sl c.oc (c.outs.map a0a)],.agg f.enc] H=some (.int .i64 0,H,[])
 sck:∀(d:Bool) (H:a03),a0b L.env d (sem L.env Mf) (.func (.func 78) [] []) [.agg [sl c.nc (c.nodes.map Nd.enc),sl c.mc (c.names.map a13),.nilslice,sl c.oc (c.outs.map a0a)],.agg [sl p.ic (p.ins.map u8R),sl p.sc (p.sts.map u8R)]] H=some (.int .i64 0,H,[])
 run:∃V1 V2,AV.storable V1=true∧AV.storable V2=true∧∀(d:Bool) (H:a03),a0b L.env d (sem L.env Mf) (.func (.func 9) [] []) [.agg [sl c.nc (c.nodes.map Nd.enc),sl c.mc (c.names.map a13),.nilslice,sl c.oc (c.outs.map a0a)],.agg [sl p.ic (p.ins.map u8R),sl p.sc (p.sts.map u8R)]] H=some (.tuple [.agg [V1,V2],.islice (D.G.map u8R) (some c.nodes.length),.int .i64 0],H,[])
 ord:∀(d:Bool) (H:a03),a0b L.env d (sem L.env Mf) (.func (.func 21) [] []) [.agg [sl c.nc (c.nodes.map Nd.enc),sl c.mc (c.names.map a13),.nilslice,sl c.oc (c.outs.map a0a)]] H=some (.tuple [.islice (D.ord.map a0a) (some c.nodes.length),.int .i64 0],H,[])
 b1:∀v∈p.ins,v≤1
 b2:∀v∈p.sts,v≤1
 l1:p.ins.length<1000000
 l2:p.sts.length<1000000
structure Mach0(c:Cir)(D:Ded):Prop where
 nodes:D.nodes=c.nodes
 ok:D.ok
 fl:D.fs.length≤1000
 nl:c.nodes.length≤1000
 pos:0<c.nodes.length
 il:∀x∈c.nodes,x.ins.length≤16
 kd:∀x∈c.nodes,x.kind≤14
section
variable {c:Cir}{p:Pat}{D:Ded}(M:Mach0 c D)(C:DCalls c p D){rl:Rep}
include M
theorem Mach0.plain:∀x∈c.nodes,x.kind≠12∧x.kind≠13:=by intro x hx;obtain⟨n,hn⟩:=f9g.1 hx;have cG:=(c13.1 hn).1;have h:=M.ok.plain n (by rw[M.nodes];exact cG);rw[M.nodes,a0y hn]at h;exact h
include C
theorem d4v:sem L.env Mf 67 [.agg [sl c.nc (c.nodes.map Nd.enc),sl c.mc (c.names.map a13),.nilslice,sl c.oc (c.outs.map a0a)],sl rl (D.fs.map Flt.enc),.agg [sl p.ic (p.ins.map u8R),sl p.sc (p.sts.map u8R)]] []=some (.int .i64 0,[]):=by
 obtain⟨V,hl⟩:=C.lines;have hp:=λ(d:Bool) (H:a03)=>c6b (d:=d) H c (by have:=M.nl;omega) M.plain;have hs:=C.sck;have hf:=λ(d:Bool) (H:a03)=>d4u (d:=d) H p C.b1 C.b2 C.l1 C.l2;have aY:=M.fl;have cG:=M.nl;simp only[Cir.enc]at hp;simp only[Pat.enc]at hf;have qR:c.nodes.length*D.fs.length≤1000*1000:=Nat.mul_le_mul cG aY;have lX:IntKind.i64.wrap ((c.nodes.length:Int)*(D.fs.length:Int))=((c.nodes.length*D.fs.length:Nat):Int):=by rw[←Int.natCast_mul];exact w64 (by omega) (by omega)
 have d1:¬(65536:Int)<D.fs.length:=by omega
 have d2:¬(1048576:Int)<((c.nodes.length*D.fs.length:Nat):Int):=by omega
 (refine sv Tryz.f67 ?_;simp only[Tryz.f67,gS])
 (repeat first|simp only[ww]|(apply xa;simp+decide only[go_sem,hl,hp,d1,d2,lX];rfl;kernel_rfl))
 refine a0q (σ:=Nat) kp67_0 (λi=>[(3,.ptr 0 0 0),(5,.ptr 1 0 0),(36,sl rl (D.fs.map Flt.enc)),(37,.int .i64 D.fs.length),(38,.int .i64 i)])
  (λ_=>[some (.row 4 [[sl c.nc (c.nodes.map Nd.enc),sl c.mc (c.names.map a13),.nilslice,sl c.oc (c.outs.map a0a)]]),some (.row 2 [[sl p.ic (p.ins.map u8R),sl p.sc (p.sts.map u8R)]])]) (λi=>D.fs.length-i) (λi=>i≤D.fs.length) 0 ?_ (f4m _) ?_
 ·(simp+decide only[go_sem,a02,a00]<;>rfl)<;>rfl
 ·intro i hi;by_cases ah:i<D.fs.length
  ·obtain⟨f,iF⟩:∃f,D.fs[i]?=some f:=⟨_,z9e ah⟩
   have i9:=c11 iF;have bZ:=C.fck f i9;simp only[Flt.enc]at bZ;have lz:(f.model:Int)=0:=by have:=(M.ok.flt f i9).1;omega
   simp only[lz]at bZ;have c1:(i:Int)<D.fs.length:=by omega
   have hw:=wI1 (n:=i) (by omega)
   (repeat first|simp only[ww]|(apply xa;simp+decide only[go_sem,c1,ah,iF,bZ,lz,hw,Flt.enc];rfl;kernel_rfl))
   refine a21 (i+1) ?_ (by omega) (by omega)
   (simp+decide only[go_sem,a02,a00]<;>rfl)<;>rfl
  ·obtain rfl:i=D.fs.length:=by omega
   have c1:¬(D.fs.length:Int)<D.fs.length:=by omega
   (repeat first|simp only[ww]|(apply xa;simp+decide only[go_sem,c1,hs,hf];rfl;kernel_rfl))
   (apply fqb;simp+decide only[go_sem]<;>rfl)
theorem c6e{d:Bool}(H:a03):a0b L.env d (sem L.env Mf) (.func (.func 67) [] []) [.agg [sl c.nc (c.nodes.map Nd.enc),sl c.mc (c.names.map a13),.nilslice,sl c.oc (c.outs.map a0a)],sl rl (D.fs.map Flt.enc),.agg [sl p.ic (p.ins.map u8R),sl p.sc (p.sts.map u8R)]] H=some (.int .i64 0,H,[]):=a04 (by kernel_rfl) (by kernel_rfl) rfl (by simp only[e14,f4g,go_sem]) (d4v M C) rfl
end
structure BegSt(c:Cir)(D:Ded)(rl:Rep)(LS:List (List AV))(H:a03)(mb lb pb:Nat)(am:Nat→Nat)(es:List ((Nat×Int)×List Nat)):Prop where
 mach:a01 H mb=some (.row 8 [[sl c.nc (c.nodes.map Nd.enc),sl c.mc (c.names.map a13),.nilslice,sl c.oc (c.outs.map a0a),sl rl (D.fs.map Flt.enc),.islice (D.G.map u8R) (some c.nodes.length),.slice lb 0 c.nodes.length (some c.nodes.length),.map pb]])
 ls:a01 H lb=some (.row 1 LS)
 m:MSm a4v H pb am es
structure LsOk(c:Cir)(LS:List (List AV)):Prop where
 flat:FlatR LS
 len:LS.length=c.nodes.length
 ne:∀l:List Nat,LS≠l.map nR
section
variable {c:Cir}{D:Ded}{rl:Rep}{LS:List (List AV)}(iL:LsOk c LS){H H1:a03}{mb lb pb:Nat}{am:Nat→Nat}{es:List ((Nat×Int)×List Nat)}(h:BegSt c D rl LS H mb lb pb am es)
include h
theorem BegSt.mrefs:a0x (a01 H mb)=[lb,pb]:=by rw[h.mach];simp only[a0x,f9j,List.flatMap_nil,f4g,go_sem]
theorem BegSt.ml:mb≠lb:=by intro e;have h1:=h.mach;rw[e,h.ls]at h1;cases h1
include iL
theorem BegSt.mv{R:Nat→Prop}{π:Nat→Option Nat}(hm:Mv H R π H1)(hR:R mb):∃iQ jt iP aJ,π mb=some iQ∧BegSt c D rl LS H1 iQ jt iP aJ es:=by
 have hr:=h.mrefs;have m9:R lb:=hm.closed mb hR lb (by rw[hr];simp);have uJ:R pb:=hm.closed mb hR pb (by rw[hr];simp);obtain⟨iQ,e1⟩:=hm.here mb hR;obtain⟨jt,e2⟩:=hm.here lb m9;obtain⟨iP,aJ,e3,e4,hM⟩:=h.m.mv b1p hm uJ;refine⟨iQ,jt,iP,aJ,e1,?_,?_,hM⟩
 ·rw[hm.heap _ _ hR e1,h.mach];simp only[f5x,a0t,c10,f4h,go_sem,e2,e3]
 ·rw[hm.heap _ _ m9 e2,h.ls];simp only[f5x,a0t,a0c π iL.flat]
theorem BegSt.gc{keep:List Nat}{F:Frm}(X:List Nat)(hX:∀b∈X,a0x (a01 H b)=[])(hF:a0l ((a2c keep F).map (·.2))=X++[mb])(hn:es.length<100000)(ik:X.length<1000) :
 ∃π H1 iQ jt iP aJ,gcD 0 keep F H=some (c0f π (a2c keep F),H1)∧π mb=some iQ∧BegSt c D rl LS H1 iQ jt iP aJ es∧∀b∈X,∃b',π b=some b'∧a01 H1 b'=(a01 H b).map (a0t π):=by
 have hr:=h.mrefs;have ig:a0x (a01 H lb)=[]:=by rw[h.ls];exact a0r iL.flat
 have tt:=h.m.cost b1p;have vp:(X.map λb=>(a0x (a01 H b)).length).sum=0:=b0b _ λb hb=>by rw[hX b hb]
 obtain⟨R,π,H1,g1,g2,_⟩:=c7u (m:=0) (keep:=keep) (F:=F) (H:=H) (f4m _) (X++(mb::lb::MSm.blocks pb am es.length)) (λb hb=>by
  rw[hF]at hb;simp only[f8n,f6m,List.not_mem_nil,or_false]at hb⊢;rcases hb with hb|rfl
  ·exact .inl hb
  ·exact .inr (.inl rfl)) (λb hb=>absurd hb (f9t b)) (by
  intro b hb d hd;simp only[f8n,f6m]at hb⊢;rcases hb with hb|rfl|rfl|hb
  ·rw[hX b hb]at hd;cases hd
  ·rw[hr]at hd;simp only[f6m,List.not_mem_nil,or_false]at hd;rcases hd with rfl|rfl
   ·exact .inr (.inr (.inl rfl))
   ·exact .inr (.inr (.inr (MSm.mem_blocks.2 (.inl rfl))))
  ·rw[ig]at hd;cases hd
  ·exact .inr (.inr (.inr (h.m.closed b1p b hb d hd)))) (by
  rw[hF];simp only[f6b,List.flatMap_nil,f4o,f5z,e12,f6c,c10,List.sum_append,List.sum_cons,vp,hr,ig];omega)
 obtain⟨iQ,jt,iP,aJ,e1,hB⟩:=h.mv iL g2.mv (g2.refs mb (by rw[hF];simp));refine⟨π,H1,iQ,jt,iP,aJ,g1,e1,hB,λb hb=>?_⟩;obtain⟨b',eb⟩:=g2.here b (g2.refs b (by rw[hF];simp[hb]));exact⟨b',eb,g2.heap b b' eb⟩
theorem BegSt.apart:mb≠pb∧lb≠pb∧(∀j,j<es.length→mb≠am j∧lb≠am j):=by obtain⟨a1,a2⟩:=h.m.other h.mach (λl e=>absurd e (by omega));obtain⟨b1,b2⟩:=h.m.other h.ls (λl _=>iL.ne l);exact⟨a1,b1,λj hj=>⟨a2 j hj,b2 j hj⟩⟩
theorem BegSt.add(x:Nat×Int)(i n:Nat)(hn:H.length≤n)(h1:a01 H1 pb=some (MSl.obj a4v am es x n))(h2:a01 H1 n=some (.row 1 ((atE x es++[i]).map nR)))
 (h3:∀d,d<H.length→d≠pb→(∀j,a7f x (es.map (·.1))=some j→d≠am j)→a01 H1 d=a01 H d):∃aJ,BegSt c D rl LS H1 mb lb pb aJ (a80 es x i):=by
 obtain⟨aJ,hM,_,_⟩:=h.m.add x i n hn h1 h2 h3;obtain⟨a1,a2,a3⟩:=h.apart iL;have hj:∀j,a7f x (es.map (·.1))=some j→j<es.length:=λj hj=>by simpa using(c13.1 (a38 hj)).1
 refine⟨aJ,?_,?_,hM⟩
 ·rw[h3 mb (a0i h.mach) a1 (λj e=>(a3 j (hj j e)).1),h.mach]
 ·rw[h3 lb (a0i h.ls) a2 (λj e=>(a3 j (hj j e)).2),h.ls]
omit iL in
theorem BegSt.more{L:a03}:BegSt c D rl LS (H++L) mb lb pb am es:=⟨by rw[a1g (g1p (a0i h.mach)),h.mach],by rw[a1g (g1p (a0i h.ls)),h.ls],h.m.more⟩
theorem BegSt.frz(n:Nat):a54 (a01 H) 0 (n+4) (.ptr mb 0 0)=some (.iptr [sl c.nc (c.nodes.map Nd.enc),sl c.mc (c.names.map a13),.nilslice,sl c.oc (c.outs.map a0a),sl rl (D.fs.map Flt.enc),.islice (D.G.map u8R) (some c.nodes.length),.islice LS (some c.nodes.length),a1t a4v es]):=by
 have hm:a54 (a01 H) 0 (n+3) (.map pb)=some (a1t a4v es):=h.m.frz b1p (n+1);have hl:a54 (a01 H) 0 (n+3) (.slice lb 0 c.nodes.length (some c.nodes.length))=some (.islice LS (some c.nodes.length)):=by rw[a5z (g1p (by omega:0<n+3)),h.ls];simp only[b0d,a0j,f9o,f8j,iL.len];rw[f8b (f6l _),f6g,f4l (by rw[iL.len];exact f6l _),a12 _ _ iL.flat]
 rw[c1g (g1p (by omega:0<n+4)),h.mach];simp only[b0d,a0j,f6n,f9o];have kb:∀b:Nat,decide (b<0)=false:=λb=>f9e (f9t _);simp only[a3n,a7s,e1e,b48,b9f,a7a,c64,kb,f7z,a0j,Nat.add_succ_sub_one,hl,hm]
end
set_option maxHeartbeats 200000000
structure EsOk(D:Ded)(i:Nat)(es:List ((Nat×Int)×List Nat)):Prop where
 at':∀x:Nat×Int,atE x es=(List.range i).filter (D.at' x.1 x.2)
 len:es.length≤i
theorem EsOk.next{D:Ded}{i:Nat}{es:List ((Nat×Int)×List Nat)}(h:EsOk D i es){f:Flt}(hf:D.ft i=f):EsOk D (i+1) (a80 es (f.node,f.pin) i):=by
 have hl:(a80 es (f.node,f.pin) i).length≤es.length+1:=by unfold a80;split<;>simp
 have:=h.len;refine⟨λx=>?_,by omega⟩;rw[b3t,f9k,List.filter_append,h.at' x];have e:D.at' x.1 x.2 i=decide (x=(f.node,f.pin)):=by unfold Ded.at';rw[hf,f9r,d14,f4p,f4p,f4p];exact⟨λ⟨a,b⟩=>Prod.ext a.symm b.symm,λh=>by rw[h];exact⟨rfl,rfl⟩⟩
 by_cases hx:x=(f.node,f.pin)
 ·rw[f6e hx,g2g,e,f8b hx];rfl
 ·rw[f4n hx,g2g,e,f9e hx];simp
def b14(c:Cir)(D:Ded)(k:Nat):List (List AV):=(List.range c.nodes.length).map λm=>[bif (D.ord.take k).contains m then .iset (D.dset m)else .nilmap]
theorem c12(c:Cir)(D:Ded)(k:Nat)(hp:0<c.nodes.length):LsOk c (b14 c D k):=by
 refine⟨λr hr=>?_,by simp[b14],λl e=>?_⟩
 ·obtain⟨m,_,rfl⟩:=g01.1 hr;cases(D.ord.take k).contains m<;>rfl
 ·have h0:=congrArg (λl:List (List AV)=>l[0]?) e;unfold b14 at h0;simp only[f4q,g07 hp,f5x]at h0;cases l with
  |nil=>simp at h0
  |cons a r=>simp only[f6n,f5x,Option.some.injEq,nR]at h0;cases hc:(D.ord.take k).contains 0<;>rw[hc]at h0<;>simp at h0
theorem b4w(c:Cir)(D:Ded)(k m:Nat)(hm:m<c.nodes.length):(b14 c D k)[m]?=some [bif (D.ord.take k).contains m then .iset (D.dset m)else .nilmap]:=by unfold b14;rw[f4q,g07 hm];rfl
theorem e8z(c:Cir)(D:Ded):List.replicate c.nodes.length [AV.nilmap]=b14 c D 0:=by unfold b14;simp only[f6b];rw[show(λm:Nat=>[bif ([]:List Nat).contains m then AV.iset (D.dset m)else AV.nilmap])=λ_=>[AV.nilmap]from rfl];rw[List.map_const',f8g]
theorem d7j(c:Cir)(D:Ded)(k n:Nat)(hk:D.ord[k]?=some n)(hn:n<c.nodes.length):(b14 c D k).set n [.iset (D.dset n)]=b14 c D (k+1):=by
 apply f8l;intro m;rw[f6k];by_cases hm:m<c.nodes.length
 ·rw[b4w c D (k+1) m hm,b4w c D k m hm,c02 hk];by_cases h:n=m
  ·subst h;rw[f6e rfl,f6e (by simp[b14,hn])];simp
  ·rw[f4n h,f9e (λe=>h e.symm),Bool.or_false]
 ·have h1:(b14 c D (k+1))[m]?=none:=f6h (by simp[b14];omega);have h2:(b14 c D k)[m]?=none:=f6h (by simp[b14];omega);rw[h1,h2];by_cases h:n=m
  ·omega
  ·rw[f4n h]
section
variable {c:Cir}{p:Pat}{D:Ded}(M:Mach0 c D)(C:DCalls c p D){rl:Rep}
include M C
theorem d9r:∃r:AV×a03,(∃es,EsOk D D.fs.length es∧r=(.tuple [.iptr [sl c.nc (c.nodes.map Nd.enc),sl c.mc (c.names.map a13),.nilslice,sl c.oc (c.outs.map a0a),sl rl (D.fs.map Flt.enc),.islice (D.G.map u8R) (some c.nodes.length),.islice (b14 c D c.nodes.length) (some c.nodes.length),a1t a4v es],.int .i64 0],[]))∧sem L.env Mf 30 [.agg [sl c.nc (c.nodes.map Nd.enc),sl c.mc (c.names.map a13),.nilslice,sl c.oc (c.outs.map a0a)],sl rl (D.fs.map Flt.enc),.agg [sl p.ic (p.ins.map u8R),sl p.sc (p.sts.map u8R)]] []=some r:=by
 have bZ:=λ(d:Bool) (H:a03)=>c6e (rl:=rl) (d:=d) M C H;obtain⟨V1,V2,jg,iU,ae⟩:=C.run;have aR:=C.ord;have aY:=M.fl;have cG:=M.nl;have aE:c.nodes.length≤1000000000:=by omega
 have tO:∀π:Nat→Option Nat,a0t π (.row 4 [[sl c.nc (c.nodes.map Nd.enc),sl c.mc (c.names.map a13),.nilslice,sl c.oc (c.outs.map a0a)]]) = .row 4 [[sl c.nc (c.nodes.map Nd.enc),sl c.mc (c.names.map a13),.nilslice,sl c.oc (c.outs.map a0a)]]:=λπ=>by simp+decide only[go_sem]
 have vJ:a0x (some (.row 4 [[sl c.nc (c.nodes.map Nd.enc),sl c.mc (c.names.map a13),.nilslice,sl c.oc (c.outs.map a0a)]]))=[]:=by simp+decide only[go_sem]
 obtain⟨dd,hd,dB⟩:=f3j;have head:∀(i cb mb lb pb:Nat) (am:Nat→Nat) (es:List ((Nat×Int)×List Nat)) (H2:a03),i≤D.fs.length→BegSt c D rl (b14 c D 0) H2 mb lb pb am es→a01 H2 cb=some (.row 4 [[sl c.nc (c.nodes.map Nd.enc),sl c.mc (c.names.map a13),.nilslice,sl c.oc (c.outs.map a0a)]])→EsOk D i es→∀F1:Frm,a0l ((a2c [3,12,46,47,48] F1).map (·.2))=[cb]++[mb]→(∀π,c0f π (a2c [3,12,46,47,48] F1)=[(3,ren π (.ptr cb 0 0)),(12,ren π (.ptr mb 0 0)),(46,sl rl (D.fs.map Flt.enc)),(47,.int .i64 D.fs.length),(48,.int .i64 (i:Nat))])→∃F2 H3,gcD 0 [3,12,46,47,48] F1 H2=some (F2,H3)∧∃(i' cb mb lb pb:Nat) (am:Nat→Nat) (es:List ((Nat×Int)×List Nat)),D.fs.length-i=D.fs.length-i'∧i'≤D.fs.length∧F2=[(3,.ptr cb 0 0),(12,.ptr mb 0 0),(46,sl rl (D.fs.map Flt.enc)),(47,.int .i64 D.fs.length),(48,.int .i64 (i':Nat))]∧a01 H3 cb=some (.row 4 [[sl c.nc (c.nodes.map Nd.enc),sl c.mc (c.names.map a13),.nilslice,sl c.oc (c.outs.map a0a)]])∧BegSt c D rl (b14 c D 0) H3 mb lb pb am es∧EsOk D i' es:=by
  intro i cb mb lb pb am es H2 hi jc mK tN F1 rR rQ;obtain⟨π,H3,iQ,jt,iP,aJ,g1,g2,g3,g4⟩:=jc.gc (c12 c D 0 M.pos) (keep:=[3,12,46,47,48]) (F:=F1) [cb] (by intro b hb;simp only[f6f]at hb;subst hb;rw[mK];exact vJ) rR (by have:=tN.len;omega) (by simp);obtain⟨vX,e1,e2⟩:=g4 cb (by simp);refine⟨_,_,g1,i,vX,iQ,jt,iP,aJ,_,rfl,hi,?_,?_,g3,tN⟩
  ·rw[rQ];simp+decide only[go_sem,e1,g2]<;>rfl
  ·rw[e2,mK];show some (a0t π (.row 4 [[sl c.nc (c.nodes.map Nd.enc),sl c.mc (c.names.map a13),.nilslice,sl c.oc (c.outs.map a0a)]]))=_;rw[tO]
 (refine svE Tryz.f30 ?_;simp only[Tryz.f30,gS])
 (repeat first|simp only[ww]|(apply xa;simp+decide only[go_sem,bZ,ae,jg,iU,aE];rfl;kernel_rfl))
 refine a4l kp30_0 (λN F H=>∃(i cb mb lb pb:Nat) (am:Nat→Nat) (es:List ((Nat×Int)×List Nat)),N=D.fs.length-i∧i≤D.fs.length∧F=[(3,.ptr cb 0 0),(12,.ptr mb 0 0),(46,sl rl (D.fs.map Flt.enc)),(47,.int .i64 D.fs.length),(48,.int .i64 (i:Nat))]∧a01 H cb=some (.row 4 [[sl c.nc (c.nodes.map Nd.enc),sl c.mc (c.names.map a13),.nilslice,sl c.oc (c.outs.map a0a)]])∧BegSt c D rl (b14 c D 0) H mb lb pb am es∧EsOk D i es) (D.fs.length-0) ?_ ?_
 ·rw[e8z c D];have hb:BegSt c D rl (b14 c D 0) [some (.row 4 [[sl c.nc (c.nodes.map Nd.enc),sl c.mc (c.names.map a13),.nilslice,sl c.oc (c.outs.map a0a)]]),some (.row 2 [[sl p.ic (p.ins.map u8R),sl p.sc (p.sts.map u8R)]]),some (.row 2 [[V1,V2]]),some (.row 1 (b14 c D 0)),some (.map [] [] [] 0),some (.row 8 [[sl c.nc (c.nodes.map Nd.enc),sl c.mc (c.names.map a13),.nilslice,sl c.oc (c.outs.map a0a),sl rl (D.fs.map Flt.enc),.islice (D.G.map u8R) (some c.nodes.length),.slice 3 0 c.nodes.length (some c.nodes.length),.map 4]])] 5 3 4 (λ_=>0) []:=⟨rfl,rfl,⟨rfl,λj e he=>by simp at he,λj k hj=>by simp at hj⟩⟩
  exact head 0 0 5 3 4 _ [] _ (f4m _) hb rfl ⟨λx=>rfl,f6l _⟩ _ (by simp+decide only[go_sem]<;>rfl) (λπ=>by simp+decide only[go_sem]<;>rfl)
 ·rintro N F H ⟨i,cb,mb,lb,pb,am,es,rfl,hi,rfl,dz,hB,hE⟩
  have mP:=c12 c D 0 M.pos;by_cases ah:i<D.fs.length
  ·obtain⟨f,iF⟩:∃f,D.fs[i]?=some f:=⟨_,z9e ah⟩
   have i8:D.ft i=f:=by unfold Ded.ft;rw[f8a,iF];rfl
   have c1:(i:Int)<D.fs.length:=by omega
   have hw:=wI1 (n:=i) (by omega)
   (repeat first|simp only[ww]|(apply xa;simp+decide only[go_sem,c1,ah,iF,Flt.enc,a1v,a2p,a4h,a6d,a3t];rfl;kernel_rfl))
   have j6:=hB.more (L:=[some (AObj.row 5 [f.enc])]);have bN:a01 (H++[some (AObj.row 5 [f.enc])]) H.length=some (AObj.row 5 [f.enc]):=a1v;have ja:a01 (H++[some (AObj.row 5 [f.enc])]) cb=some (.row 4 [[sl c.nc (c.nodes.map Nd.enc),sl c.mc (c.names.map a13),.nilslice,sl c.oc (c.outs.map a0a)]]):=by rw[a1g (g1p (a0i dz)),dz]
   simp only[Flt.enc]at j6 bN ja;generalize H++[some (AObj.row 5 [_])]=Hs at j6 bN ja⊢;generalize H.length=tb at bN⊢;refine c6v (λF1 H2=>∃gU,(a34 F1 3 = .ptr cb 0 0∧a34 F1 12 = .ptr mb 0 0∧a34 F1 46=sl rl (D.fs.map Flt.enc)∧a34 F1 47 = .int .i64 D.fs.length∧a34 F1 48 = .int .i64 (i:Nat))∧BegSt c D rl (b14 c D 0) H2 mb lb pb gU (a80 es (f.node,f.pin) i)∧a01 H2 cb=some (.row 4 [[sl c.nc (c.nodes.map Nd.enc),sl c.mc (c.names.map a13),.nilslice,sl c.oc (c.outs.map a0a)]])) ?_ ?_
   ·have cZ:=j6.mach;have dg:=j6.m.top;have iB:=a0i cZ;have bR:=a0i dg;have eH:=a0i bN;have pF:=a0i ja;obtain⟨a1,a2,a3⟩:=j6.apart mP;obtain⟨lS,lR⟩:=j6.m.other bN (λl e=>absurd e (by omega));obtain⟨su,uc⟩:=j6.m.other ja (λl e=>absurd e (by omega));have qq:tb≠mb:=by intro e;rw[e,cZ]at bN;cases bN
    have gz:=λ(H':a03) (hb:a01 H' pb=_) r=>keyL.entry (h:=a01 H') (r:=r) (hb.trans dg) (f.node,f.pin) f3e hd dB;have rM:∀(o:Option AObj) (L:a03),a01 (Hs.set pb o++L) Hs.length=a01 L 0:=λo L=>by have:=a5k (H:=Hs) (a:=pb) (o:=o) (L:=L) 0;rwa [g1w]at this
    cases aX:a7f (f.node,f.pin) (es.map (·.1))with
    |none=>
     simp only[aX]at gz;have gz:∀L1:a03,a45 L.env (a01 (Hs++L1)) 93 (.map pb) (.agg [.int .i64 f.node,.int .i64 f.pin])=_:=λL1=>gz _ (a1g (g1p bR)) _ rfl;have jY:=λ(L1:a03) v=>a68 (k:=.i64) (h:=a01 (Hs.set pb (some (.map ((es.map (·.1)).map a4v++[a4v (f.node,f.pin)]) ((es.mapIdx λj (e:(Nat×Int)×List Nat)=>AV.slice (am j) 0 e.2.length none)++[AV.nilslice]) (List.range es.length++[es.length]) (es.length+1)))++L1)) (b:=pb) (n:=es.length+1) (cl:=es.length+1) (ks:=(es.map (·.1)).map a4v++[a4v (f.node,f.pin)]) (vs:=(es.mapIdx λj (e:(Nat×Int)×List Nat)=>AV.slice (am j) 0 e.2.length none)++[AV.nilslice]) (by rw[a1a bR,f6e rfl,f9k]) (j:=es.length) (by omega) v;simp only[f9k]at jY;have az:∀v:AV,((es.mapIdx λj (e:(Nat×Int)×List Nat)=>AV.slice (am j) 0 e.2.length none)++[AV.nilslice]).set es.length v=(es.mapIdx λj (e:(Nat×Int)×List Nat)=>AV.slice (am j) 0 e.2.length none)++[v]:=by intro v;have:=List.set_append_right (s:=es.mapIdx λj (e:(Nat×Int)×List Nat)=>AV.slice (am j) 0 e.2.length none) (t:=[AV.nilslice]) es.length v (by simp);rw[this];simp
     refine a76 (by simp+decide only[go_sem,Flt.enc,cZ,bN,a1v,a2p,a1g,a3r,a4h,a6d,a9l,f6j,a3t,a5h,f4i,f6a,e14,iB,bR,eH,gz,jY,az,rM,List.set_set];rfl) ?_ ?_
     ·(repeat' (first|exact a8w|exact a8o|refine a77 ?_ ?_|refine a8n (by simp only[e12,f4o];decide+kernel) ?_|refine a8p (a7d (by simp<;>omega) (by simp<;>omega) (by simp<;>omega)) ?_))
     ·have bg:atE (f.node,f.pin) es=[]:=by unfold atE;rw[aX]
      have dD:MSl.obj a4v am es (f.node,f.pin) (Hs.length+1) = .map ((es.map (·.1)).map a4v++[a4v (f.node,f.pin)]) ((es.mapIdx λj (e:(Nat×Int)×List Nat)=>.slice (am j) 0 e.2.length none)++[.slice (Hs.length+1) 0 1 none]) (List.range es.length++[es.length]) (es.length+1):=by unfold MSl.obj;rw[aX,bg];rfl
      obtain⟨gU,jc⟩:=BegSt.add (H1:=Hs.set pb (some (MSl.obj a4v am es (f.node,f.pin) (Hs.length+1)))++[some (.row 1 [[.int .i64 i]]),some (.row 1 [[.int .i64 i]])]) mP j6 (f.node,f.pin) i (Hs.length+1) (by omega) (by rw[a1a bR,f6e rfl]) (by rw[a5k,bg];rfl) (λd hd hn _=>by rw[a1a hd,f4n (f9m hn)]);rw[dD]at jc;exact⟨gU,⟨rfl,rfl,rfl,rfl,rfl⟩,jc,by rw[a1a pF,f4n (f9m su),ja]⟩
    |some j=>
     have aS:j<es.length:=by simpa using(c13.1 (a38 aX)).1
     obtain⟨x,hx⟩:∃x,es[j]?=some x:=⟨_,z9e aS⟩
     have bg:atE (f.node,f.pin) es=x.2:=by unfold atE;rw[aX];simp[hx]
     have aV:=j6.m.sub j x hx;have fw:=j6.m.sub_c aS;have lF:=lR j aS;have wp:=(a3 j aS).1;have mw:=a0i aV;have ai:x.2.length+1≤1000000000:=by have:=hE.at' (f.node,f.pin);rw[bg]at this;have h2:=f9x (D.at' f.node f.pin) (List.range i);rw[←this,f8g]at h2;omega
     have pK:(es.mapIdx λj (e:(Nat×Int)×List Nat)=>AV.slice (am j) 0 e.2.length none)[j]?=some (.slice (am j) 0 x.2.length none):=by rw[f5y,hx];rfl
     have ng:(List.range es.length)[j]?=some j:=g07 aS;simp only[aX,pK,ng]at gz;have gz:∀L1:a03,a45 L.env (a01 (Hs++L1)) 93 (.map pb) (.agg [.int .i64 f.node,.int .i64 f.pin])=_:=λL1=>gz _ (a1g (g1p bR)) _ rfl;have jf:=a8k dg;have jY:=λ(L1:a03) v=>a68 (k:=.i64) (h:=a01 (Hs.set (am j) none++L1)) (b:=pb) (by rw[a1a bR,f4n fw];exact dg) aS v;refine a76 (by simp+decide only[go_sem,Flt.enc,cZ,bN,a1v,a2p,a1g,a3r,a4h,a6d,a9l,f6j,a3t,a5h,f4i,f6a,e14,iB,bR,eH,gz,jY,jf,aV,ai,mw];rfl) ?_ ?_
     ·(repeat' (first|exact a8w|exact a8o|refine a77 ?_ ?_|refine a8n (by simp only[e12,f4o];decide+kernel) ?_|refine a8p (a7d (by simp<;>omega) (by simp<;>omega) (by simp<;>omega)) ?_))
     ·have dD:MSl.obj a4v am es (f.node,f.pin) (Hs.length+1) = .map ((es.map (·.1)).map a4v) ((es.mapIdx λj (e:(Nat×Int)×List Nat)=>AV.slice (am j) 0 e.2.length none).set j (.slice (Hs.length+1) 0 (x.2.length+1) none)) (List.range es.length) es.length:=by unfold MSl.obj;rw[aX,bg]
      obtain⟨gU,jc⟩:=BegSt.add (H1:=(Hs.set (am j) none).set pb (some (MSl.obj a4v am es (f.node,f.pin) (Hs.length+1)))++[some (.row 1 [[.int .i64 i]]),some (.row 1 (x.2.map nR++[[.int .i64 i]]))]) mP j6 (f.node,f.pin) i (Hs.length+1) (by omega) (by rw[a2l bR,f6e rfl]) (by rw[a8c,bg,f6c];rfl) (λd hd hn hq=>by rw[a2l hd,f4n (f9m hn),f4n (f9m (hq j aX))]);rw[dD]at jc;exact⟨gU,⟨rfl,rfl,rfl,rfl,rfl⟩,jc,by rw[a2l pF,f4n (f9m su),f4n (f9m (uc j aS)),ja]⟩
   ·rintro F1 H2 ⟨gU,⟨g3,pj,tX,tW,vN⟩,jc,mK⟩
    (repeat first|simp only[ww]|(apply xa;simp+decide only[go_sem,vN,hw];rfl;kernel_rfl))
    refine a1j (D.fs.length-(i+1)) (by omega) (head (i+1) cb mb lb pb gU _ H2 ah jc mK (hE.next i8) _ (by simp+decide only[go_sem,g3,pj,tX,tW]<;>rfl) (λπ=>by simp+decide only[go_sem,g3,pj,tX,tW]<;>rfl))
  ·obtain rfl:i=D.fs.length:=by omega
   have c1:¬(D.fs.length:Int)<D.fs.length:=by omega
   have rS:Mach c D es:=⟨M.nodes,M.ok,M.fl,M.nl,M.il,M.kd,λn pin=>hE.at' (n,pin)⟩
   have lC:=a0i dz;have bW:D.ord.length=c.nodes.length:=by have:=M.ok.perm.length_eq;rw[f8g,M.nodes]at this;exact this
   have lL:∀(k mb lb pb:Nat) (am:Nat→Nat) (H2:a03),k≤c.nodes.length→BegSt c D rl (b14 c D k) H2 mb lb pb am es→∀F1:Frm,a0l ((a2c [12,71,72,73] F1).map (·.2))=[]++[mb]→(∀π,c0f π (a2c [12,71,72,73] F1)=[(12,ren π (.ptr mb 0 0)),(71,.islice (D.ord.map a0a) (some c.nodes.length)),(72,.int .i64 c.nodes.length),(73,.int .i64 (k:Nat))])→
    ∃F2 H3,gcD 0 [12,71,72,73] F1 H2=some (F2,H3)∧∃(k' mb lb pb:Nat) (am:Nat→Nat),c.nodes.length-k=c.nodes.length-k'∧k'≤c.nodes.length∧F2=[(12,.ptr mb 0 0),(71,.islice (D.ord.map a0a) (some c.nodes.length)),(72,.int .i64 c.nodes.length),(73,.int .i64 (k':Nat))]∧BegSt c D rl (b14 c D k') H3 mb lb pb am es:=by
    intro k mb lb pb am H2 hk jc F1 rR rQ;obtain⟨π,H3,iQ,jt,iP,aJ,g1,g2,g3,_⟩:=jc.gc (c12 c D k M.pos) (keep:=[12,71,72,73]) (F:=F1) [] (by intro b hb;cases hb) rR (by have:=hE.len;omega) (by simp);refine⟨_,_,g1,k,iQ,jt,iP,aJ,rfl,hk,?_,g3⟩;rw[rQ];simp+decide only[go_sem,g2]<;>rfl
   (repeat first|simp only[ww]|(apply xa;simp+decide only[go_sem,c1,dz,lC,aR,bW];rfl;kernel_rfl))
   refine a4l kp30_2 (λN F H=>∃(k' mb lb pb:Nat) (am:Nat→Nat),N=c.nodes.length-k'∧k'≤c.nodes.length∧F=[(12,.ptr mb 0 0),(71,.islice (D.ord.map a0a) (some c.nodes.length)),(72,.int .i64 c.nodes.length),(73,.int .i64 (k':Nat))]∧BegSt c D rl (b14 c D k') H mb lb pb am es) (c.nodes.length-0) ?_ ?_
   ·exact lL 0 mb lb pb am H (f4m _) hB _ (by simp+decide only[go_sem]<;>rfl) (λπ=>by simp+decide only[go_sem]<;>rfl)
   ·rintro N F H ⟨k,mb,lb,pb,am,rfl,hk,rfl,hB⟩
    have iL:=c12 c D k M.pos;have jN:=hB.mach;have cH:=a0i jN;have kn:=hB.frz iL 8;by_cases fT:k<c.nodes.length
    ·obtain⟨n,hn⟩:∃n,D.ord[k]?=some n:=⟨_,z9e (by omega)⟩
     have iY:n<c.nodes.length:=by have:=M.ok.ordl n (c11 hn);rwa [M.nodes]at this
     obtain⟨x,hx⟩:∃x,c.nodes[n]?=some x:=⟨_,z9e iY⟩
     have c2:(k:Int)<c.nodes.length:=by omega
     have pH:k<D.ord.length:=by omega
     have lg:=wI1 (n:=k) (by omega);have sZ:=hB.ls;have aQ:=a0i sZ;have aI:=b4w c D k n iY;have d9:=iL.len;have uR:∀d:Bool,a0b L.env d (sem L.env Mf) (.func (.func 68) [] []) [.ptr mb 0 0,.int .i64 n] H=some (.iset (D.dset n),H,List.range H.length):=λd=>by
      refine d33 (rl:=rl) (LS:=b14 c D k) rS hx (λhc m hm=>?_) ?_
      ·have dG:=M.ok.comb n (by rw[M.nodes];exact iY) (by unfold Ded.comb at hc;simpa using hc);have cz:=M.ok.topo k n hn dG m (by rw[rS.ins hx];exact hm);have cH:m<c.nodes.length:=by have:=M.ok.inn n (by rw[M.nodes];exact iY) m (by rw[rS.ins hx];exact hm);rwa [M.nodes]at this
       rw[b4w c D k m cH,g0w.2 cz];rfl
      ·rw[b6o,f9e (f9t _),f7z];exact kn
     have kA:∀σ,a7o L.env (.func (.func 68) [] []) H H σ=true:=λσ=>by show(L.env.ro 68&&σ.all λb=>b2x (a01 H b) (a01 H b))=true;rw[show L.env.ro 68=true from rfl,f9p,f8c];intro b _;exact b8c _
     (repeat first|simp only[ww]|(apply xa;simp+decide only[go_sem,c2,fT,hn,pH];rfl;kernel_rfl))
     refine c6v (λF1 H2=>(a34 F1 12 = .ptr mb 0 0∧a34 F1 71 = .islice (D.ord.map a0a) (some c.nodes.length)∧a34 F1 72 = .int .i64 c.nodes.length∧a34 F1 73 = .int .i64 (k:Nat))∧BegSt c D rl (b14 c D (k+1)) H2 mb lb pb am es) ?_ ?_
     ·refine a76 (by simp+decide only[go_sem,jN,cH,sZ,aQ,aI,d9,iY,uR,kA];rfl) ?_ ?_
      ·(repeat' (first|exact a8w|exact a8o|refine a77 ?_ ?_|refine a8n (by simp only[e12,f4o];decide+kernel) ?_|refine a8p (a7d (by simp<;>omega) (by simp<;>omega) (by simp<;>omega)) ?_))
      ·refine⟨⟨rfl,rfl,rfl,rfl⟩,?_⟩;obtain⟨a1,a2,a3⟩:=hB.apart iL;have e:=d7j c D k n hn iY;show BegSt c D rl _ (List.set H lb (some (.row 1 ((b14 c D k).set n [.iset (D.dset n)])))) mb lb pb am es;rw[e];have aF:∀d,d≠lb→a01 (List.set H lb (some (.row 1 (b14 c D (k+1))))) d=a01 H d:=λd hd=>a7q (f9m hd);refine⟨by rw[aF mb hB.ml,jN],by rw[b44 aQ],hB.m.same λd hd=>aF d ?_⟩;rcases MSm.mem_blocks.1 hd with rfl|⟨j,hj,rfl⟩
       ·exact f9m a2
       ·exact f9m (a3 j hj).2
     ·rintro F1 H2 ⟨⟨pj,tV,tU,vM⟩,jc⟩
      (repeat first|simp only[ww]|(apply xa;simp+decide only[go_sem,vM,lg];rfl;kernel_rfl))
      refine a1j (c.nodes.length-(k+1)) (by omega) (lL (k+1) mb lb pb am H2 fT jc _ (by simp+decide only[go_sem,pj,tV,tU]<;>rfl) (λπ=>by simp+decide only[go_sem,pj,tV,tU]<;>rfl))
    ·obtain rfl:k=c.nodes.length:=by omega
     have c2:¬(c.nodes.length:Int)<c.nodes.length:=by omega
     (repeat first|simp only[ww]|(apply xa;simp+decide only[go_sem,c2];rfl;kernel_rfl))
     refine a5l (vs:=[.ptr mb 0 0,.int .i64 0]) (r:=(.tuple [.iptr [sl c.nc (c.nodes.map Nd.enc),sl c.mc (c.names.map a13),.nilslice,sl c.oc (c.outs.map a0a),sl rl (D.fs.map Flt.enc),.islice (D.G.map u8R) (some c.nodes.length),.islice (b14 c D c.nodes.length) (some c.nodes.length),a1t a4v es],.int .i64 0],[])) (by simp+decide only[go_sem]<;>rfl) ?_ ⟨es,hE,rfl⟩;show a1f false 0 _ _=_;rw[b25];have kb:∀b:Nat,decide (b<0)=false:=λb=>f9e (f9t _);simp only[a5q,c3u,a3n,a7s,b6o,kb,f7z,kn,a0j];rfl
def a9w(c:Cir)(D:Ded):List (List AV):=(List.range c.nodes.length).map λm=>[.iset (D.dset m)]
omit C in
theorem d7i:b14 c D c.nodes.length=a9w c D:=by
 unfold b14 a9w;refine f8e λm hm=>?_;have bW:D.ord.length=c.nodes.length:=by have:=M.ok.perm.length_eq;rw[f8g,M.nodes]at this;exact this
 have cz:m∈D.ord.take c.nodes.length:=by rw[←bW,f6i];exact M.ok.perm.mem_iff.2 (by rw[M.nodes];exact hm)
 rw[g0w.2 cz];rfl
theorem b9r:∃es,Mach c D es∧∀(d:Bool) (H:a03),a0b L.env d (sem L.env Mf) (.func (.func 30) [] []) [.agg [sl c.nc (c.nodes.map Nd.enc),sl c.mc (c.names.map a13),.nilslice,sl c.oc (c.outs.map a0a)],sl rl (D.fs.map Flt.enc),.agg [sl p.ic (p.ins.map u8R),sl p.sc (p.sts.map u8R)]] H=some (.tuple [.iptr [sl c.nc (c.nodes.map Nd.enc),sl c.mc (c.names.map a13),.nilslice,sl c.oc (c.outs.map a0a),sl rl (D.fs.map Flt.enc),.islice (D.G.map u8R) (some c.nodes.length),.islice (a9w c D) (some c.nodes.length),a1t a4v es],.int .i64 0],H,[]):=by obtain⟨r,⟨es,hE,rfl⟩,hr⟩:=d9r (rl:=rl) M C;rw[d7i M]at hr;exact⟨es,⟨M.nodes,M.ok,M.fl,M.nl,M.il,M.kd,λn pin=>hE.at' (n,pin)⟩,λd H=>a04 (by kernel_rfl) (by kernel_rfl) rfl (by simp only[e14,f4g,go_sem]) hr rfl⟩
end
theorem _root_.Go.Ax.sem_prim{E:Env}{M:List Fact}{g:FuncId}{args:List AV}{r:AV×a03}(dv:∀x∈M,x.g≠g)(h:E.prim g args=some r):sem E M g args []=some r:=c5a dv 0 (by unfold b31 d2a;simp only[h])
def a79(i:Int):List AV:=[.int .i64 i]
def dsV(S:List Int):AV:=match S with
 | []=>.nilslice
 |_=>.islice (S.map a79) (some S.length)
theorem b6v(S:List Int):FlatR (S.map a79):=FlatR.map λ_=>rfl
theorem b1r(S:List Int):refs (dsV S)=[]:=by cases S<;>rfl
theorem b5e{d:Bool}{H:a03}{V:AV}{m:Nat}{q:Nat→Bool}(hm:m≤1000000)(hV:a4j 0 false (a54 (a01 H) 0 12) V=some (.iset (a1p m q))) :
 a0b L.env d (sem L.env Mf) (.func (.func 31) [] []) [V] H=some (dsV (a1p m q),H,List.range H.length):=by
 have hk:d3e (a1p m q)=true:=e44 (e49 hm) (d3r m q);generalize a1p m q=S at hk hV;have hp:L.env.prim 31 [.iset S]=a9k [.iset S]:=rfl;have h1:a5t 0 false (a54 (a01 H) 0 12) [V]=some [.iset S]:=by rw[a3n,hV];rfl
 cases S with
 |nil=>refine b3q (args:=[V]) (by kernel_rfl) (by kernel_rfl) rfl h1 (v:=.nilslice) (H1:=[]) (sem_prim (λ_ h=>by cases h) ?_) rfl rfl;rw[hp];simp only[a9k,hk,f6g]
 |cons a r=>
  refine b3q (args:=[V]) (by kernel_rfl) (by kernel_rfl) rfl h1 (v:=.slice 0 0 (r.length+1) (some (r.length+1))) (H1:=[some (.row 1 ((a::r).map a79))]) (sem_prim (λ_ h=>by cases h) ?_) rfl ?_
  ·rw[hp];simp only[a9k,hk,f6g];rfl
  ·have hf:=b6v (a::r);have dv:e15 (.row 1 ((a::r).map a79))=true:=by
    show((a::r).map a79).all c7e=true;rw[f8c];intro x hx;obtain⟨i,_,rfl⟩:=g01.1 hx;rfl
   have hc:a7w [some (.row 1 ((a::r).map a79))] 0=some (.row 1 ((a::r).map a79)):=by unfold a7w;show(match some (AObj.row 1 ((a::r).map a79))with|some o=>bif e15 o then some o else none|none=>none)=_;simp only[dv,f6g]
   rw[a7a,f9e (f9t _),f7z,a5z (g1p (by omega:0<12)),hc];simp only[b0d,a0j,f9o,f8j,f4j,e12];rw[f8b (f6l _),f6g,f4l (by simp),a12 _ _ hf];rfl
theorem e5d(S:List Int):(dsV S).cells=[dsV S]:=by cases S<;>rfl
theorem d1j(S:List Int):(dsV S).storable=true:=by cases S<;>rfl
def a6h(c:Cir)(D:Ded)(k:Nat):List (List AV):=(List.range c.nodes.length).map λm=>[bif decide (m<k)then dsV (D.dset m)else .nilslice]
def d32(c:Cir)(D:Ded):AV:=.islice ((List.range c.nodes.length).map λm=>[dsV (D.dset m)]) (some c.nodes.length)
theorem a78(c:Cir)(D:Ded)(k:Nat):FlatR (a6h c D k):=FlatR.map λm=>by
 cases decide (m<k)
 ·rfl
 ·simp only[f6g,a07,b1r,a1u,f4g]
theorem b0i(c:Cir)(D:Ded)(k:Nat):(a6h c D k).length=c.nodes.length:=by simp[a6h]
theorem b39(c:Cir)(D:Ded)(k m:Nat)(hm:m<c.nodes.length):(a6h c D k)[m]?=some [bif decide (m<k)then dsV (D.dset m)else .nilslice]:=by unfold a6h;rw[f4q,g07 hm];rfl
theorem c9h(c:Cir)(D:Ded)(k:Nat)(hk:k<c.nodes.length):(a6h c D k).set k [dsV (D.dset k)]=a6h c D (k+1):=by
 apply f8l;intro m;rw[f6k];by_cases hm:m<c.nodes.length
 ·rw[b39 c D (k+1) m hm,b39 c D k m hm,b0i];by_cases h:k=m
  ·subst h;rw[f6e rfl,f6e hk,f8b (by omega:k<k+1)];rfl
  ·rw[f4n h];have e:decide (m<k)=decide (m<k+1):=by rw[decide_eq_decide];omega
   rw[e]
 ·have h1:(a6h c D (k+1))[m]?=none:=f6h (by rw[b0i];omega);have h2:(a6h c D k)[m]?=none:=f6h (by rw[b0i];omega);rw[h1,h2,f4n (by omega)]
theorem c9i(c:Cir)(D:Ded):a6h c D c.nodes.length=(List.range c.nodes.length).map λm=>[dsV (D.dset m)]:=by unfold a6h;refine f8e λm hm=>?_;rw[f8b (g0y.1 hm)];rfl
theorem b66(c:Cir)(D:Ded){m:Nat}(hm:m<c.nodes.length):(a9w c D)[m]?=some [.iset (D.dset m)]:=by unfold a9w;rw[f4q,g07 hm];rfl
theorem d7p(c:Cir)(D:Ded):List.replicate c.nodes.length [AV.nilslice]=a6h c D 0:=by unfold a6h;rw[show(λm:Nat=>[bif decide (m<0)then dsV (D.dset m)else AV.nilslice])=λ_=>[AV.nilslice]from rfl];rw[List.map_const',f8g]
section
variable {c:Cir}{p:Pat}{D:Ded}(M:Mach0 c D)(C:DCalls c p D){rl:Rep}
include M C
theorem d7o:sem L.env Mf 12 [.agg [sl c.nc (c.nodes.map Nd.enc),sl c.mc (c.names.map a13),.nilslice,sl c.oc (c.outs.map a0a)],sl rl (D.fs.map Flt.enc),.agg [sl p.ic (p.ins.map u8R),sl p.sc (p.sts.map u8R)]] []=some (.tuple [d32 c D,.int .i64 0],[]):=by
 obtain⟨es,hE,hb⟩:=b9r (rl:=rl) M C;have cG:=M.nl;have aY:=M.fl;have aE:c.nodes.length≤1000000000:=by omega
 have oR:(a9w c D).length=c.nodes.length:=by simp[a9w]
 have eu:refs (a1t a4v es)=[]:=rfl;have tK:(a1t a4v es).storable=true:=rfl
 (refine sv Tryz.f12 ?_;simp only[Tryz.f12,gS])
 (repeat first|simp only[ww]|(apply xa;simp+decide only[go_sem,hb,aE,oR];rfl;kernel_rfl))
 refine a0q (σ:=Nat) kp12_0 (λk=>[(10,.slice 0 0 c.nodes.length (some c.nodes.length)),(32,.islice (a9w c D) (some c.nodes.length)),(33,.int .i64 c.nodes.length),(34,.int .i64 k)])
  (λk=>[some (.row 1 (a6h c D k))]) (λk=>c.nodes.length-k) (λk=>k≤c.nodes.length) 0 ?_ (f4m _) ?_
 ·rw[d7p c D];have h1:=a0f (a78 c D 0);have h2:=λπ=>a0c π (a78 c D 0)
  (simp+decide only[go_sem,a02,a00,h1,h2]<;>rfl)<;>rfl
 ·intro k hk;have eM:=b0i c D k;by_cases fT:k<c.nodes.length
  ·have c1:(k:Int)<c.nodes.length:=by omega
   have dw:k<(a9w c D).length:=by omega
   have hw:=wI1 (n:=k) (by omega);have hg:=b66 c D fT;have hT:=b39 c D k k fT;have hs:=λ(d:Bool) (H:a03)=>b5e (d:=d) (H:=H) (V:=.iset (D.dset k)) (m:=D.fs.length) (q:=D.dif k) (by omega) rfl;rw[show a1p D.fs.length (D.dif k)=D.dset k from rfl]at hs;have bi:=c9h c D k fT;have qB:=d1j (D.dset k);have cD:=e5d (D.dset k);have h1:=a0f (a78 c D (k+1));have h2:=λπ=>a0c π (a78 c D (k+1))
   (repeat first|simp only[ww]|(apply xa;simp+decide only[go_sem,c1,fT,dw,hg,hs,hT,eM,bi,qB,cD,hw];rfl;kernel_rfl))
   refine a21 (k+1) ?_ (by omega) (by omega)
   (simp+decide only[go_sem,a02,a00,h1,h2]<;>rfl)<;>rfl
  ·obtain rfl:k=c.nodes.length:=by omega
   have c1:¬(c.nodes.length:Int)<c.nodes.length:=by omega
   have hf:=a78 c D c.nodes.length;have fj:(a6h c D c.nodes.length).take c.nodes.length=a6h c D c.nodes.length:=f4l (by omega);have h2:=λm d=>a12 (m:=m) (d:=d) hf;unfold d32;rw[←c9i];generalize a6h c D c.nodes.length=T at eM h2 fj
   (repeat first|simp only[ww]|(apply xa;simp+decide only[go_sem,c1];rfl;kernel_rfl))
   (apply fqb;simp+decide only[go_sem,eM,h2,fj]<;>rfl)
end
def _root_.Go.Pc.Ded.outT(D:Ded)(l:List Nat)(i:Nat):Bool:=l.any λn=>D.dif n i
def _root_.Go.Pc.Ded.staT(D:Ded)(l:List Nat)(i:Nat):Bool:=l.any λn=>D.chg n 0 i
theorem c8j{α:Type}{f:α→Bool}{l:List α}{t:Nat}{v:α}(h:l[t]?=some v):(l.take (t+1)).any f=((l.take t).any f||f v):=by rw[a0v h,List.any_append];simp
section
variable {c:Cir}{p:Pat}{D:Ded}(M:Mach0 c D)(C:DCalls c p D){rl:Rep}
include M C
theorem e1j(ho:∀n∈c.outs,n<c.nodes.length)(bW:c.outs.length<1000000):sem L.env Mf 13 [.agg [sl c.nc (c.nodes.map Nd.enc),sl c.mc (c.names.map a13),.nilslice,sl c.oc (c.outs.map a0a)],sl rl (D.fs.map Flt.enc),.agg [sl p.ic (p.ins.map u8R),sl p.sc (p.sts.map u8R)]] []=some (.tuple [dsV (a1p D.fs.length λi=>D.outT c.outs i||D.staT (kinds c.nodes 14) i),.int .i64 0],[]):=by
 obtain⟨es,hE,hb⟩:=b9r (rl:=rl) M C;have cG:=M.nl;have aY:=M.fl;have oR:(a9w c D).length=c.nodes.length:=by simp[a9w]
 have eu:refs (a1t a4v es)=[]:=rfl;have e8:∀π,ren π (a1t a4v es)=a1t a4v es:=λπ=>a14 π _ rfl;have az:=λ(d:Bool) (H:a03)=>a5w (d:=d) H c (by omega);obtain⟨r1,vW⟩:=a3b (kinds c.nodes 14);rw[vW]at az;have dw:=a3h c.nodes 14;have s8:∀n∈kinds c.nodes 14,n<c.nodes.length∧a0e c.nodes n=14:=λn hn=>by unfold kinds a40 at hn;rw[f9s,g0y]at hn;exact⟨hn.1,by simpa using hn.2⟩
 simp only[Cir.enc]at az;have bh:=λ(H:a03) (q:Nat→Bool) (hb:a01 H 0=some (.uset (a1p D.fs.length q)))=>b5e (d:=false) (H:=H) (V:=.map 0) (m:=D.fs.length) (q:=q) (by omega) (by rw[c64,f9e (f9t _),f7z,c3v (by omega) hb]);generalize hS14:kinds c.nodes 14=S14 at az dw s8
 (refine sv Tryz.f13 ?_;simp only[Tryz.f13,gS])
 (repeat first|simp only[ww]|(apply xa;simp+decide only[go_sem,hb];rfl;kernel_rfl))
 refine a0q (σ:=Nat) kp13_0 (λt=>[(3,.ptr 0 0 0),(8,.iptr [sl c.nc (c.nodes.map Nd.enc),sl c.mc (c.names.map a13),.nilslice,sl c.oc (c.outs.map a0a),sl rl (D.fs.map Flt.enc),.islice (D.G.map u8R) (some c.nodes.length),.islice (a9w c D) (some c.nodes.length),a1t a4v es]),(10,.map 1),(28,sl c.oc (c.outs.map a0a)),(29,.int .i64 c.outs.length),(30,.int .i64 t)])
  (λt=>[some (.row 4 [[sl c.nc (c.nodes.map Nd.enc),sl c.mc (c.names.map a13),.nilslice,sl c.oc (c.outs.map a0a)]]),some (.uset (a1p D.fs.length (D.outT (c.outs.take t))))]) (λt=>c.outs.length-t) (λt=>t≤c.outs.length) 0 ?_ (f4m _) ?_
 ·have e:a1p D.fs.length (D.outT (c.outs.take 0))=[]:=by
   unfold a1p;rw[g1x,List.filter_eq_nil_iff];intro i _;simp[Ded.outT]
  rw[e]
  (simp+decide only[go_sem,a02,a00,eu,e8]<;>rfl)<;>rfl
 ·intro t ht;by_cases bJ:t<c.outs.length
  ·obtain⟨n,hn⟩:∃n,c.outs[t]?=some n:=⟨_,z9e bJ⟩
   have bp:=ho n (c11 hn);have bC:n<(a9w c D).length:=by omega
   have c1:(t:Int)<c.outs.length:=by omega
   have hw:=wI1 (n:=t) (by omega);have hg:=b66 c D bp;have iH:=λ(d:Bool) (x0:Option AObj) (X:a03)=>c43 (d:=d) (x0::some (.uset (a1p D.fs.length (D.outT (c.outs.take t))))::X) 1 D.fs.length (D.outT (c.outs.take t)) (D.dif n) rfl;rw[show a1p D.fs.length (D.dif n)=D.dset n from rfl]at iH;have e:(a1p D.fs.length λk=>D.outT (c.outs.take t) k||D.dif n k)=a1p D.fs.length (D.outT (c.outs.take (t+1))):=a19 λi _=>(c8j hn).symm;rw[e]at iH
   (repeat first|simp only[ww]|(apply xa;simp+decide only[go_sem,c1,bJ,hn,hg,bC,bp,iH,hw];rfl;kernel_rfl))
   refine a21 (t+1) ?_ (by omega) (by omega)
   (simp+decide only[go_sem,a02,a00,eu,e8]<;>rfl)<;>rfl
  ·obtain rfl:t=c.outs.length:=by omega
   have c1:¬(c.outs.length:Int)<c.outs.length:=by omega
   rw[f6i]
   (repeat first|simp only[ww]|(apply xa;simp+decide only[go_sem,c1,az];rfl;kernel_rfl))
   refine a0q (σ:=Nat) kp13_2 (λt=>[(8,.iptr [sl c.nc (c.nodes.map Nd.enc),sl c.mc (c.names.map a13),.nilslice,sl c.oc (c.outs.map a0a),sl rl (D.fs.map Flt.enc),.islice (D.G.map u8R) (some c.nodes.length),.islice (a9w c D) (some c.nodes.length),a1t a4v es]),(10,.map 0),(45,sl r1 (S14.map a0a)),(46,.int .i64 S14.length),(47,.int .i64 t)])
    (λt=>[some (.uset (a1p D.fs.length λi=>D.outT c.outs i||D.staT (S14.take t) i))]) (λt=>S14.length-t) (λt=>t≤S14.length) 0 ?_ (f4m _) ?_
   ·have e:(a1p D.fs.length λi=>D.outT c.outs i||D.staT (S14.take 0) i)=a1p D.fs.length (D.outT c.outs):=a19 λi _=>by simp[Ded.staT]
    rw[e]
    (simp+decide only[go_sem,a02,a00,eu,e8]<;>rfl)<;>rfl
   ·intro t ht;by_cases bJ:t<S14.length
    ·obtain⟨n,hn⟩:∃n,S14[t]?=some n:=⟨_,z9e bJ⟩
     obtain⟨bp,gp⟩:=s8 n (c11 hn);obtain⟨x,hx⟩:∃x,c.nodes[n]?=some x:=⟨_,z9e bp⟩
     have ey:x.kind=14:=by rw[←gp,a0y hx]
     have aG:=M.ok.lo n (by rw[M.nodes];exact bp);rw[hE.ins hx,hE.kind hx,ey]at aG;have mX:0<x.ins.length:=aG;obtain⟨m,hm⟩:∃m,x.ins[0]?=some m:=⟨_,z9e mX⟩
     have hL:∀m∈x.ins,(a9w c D)[m]?=some [.iset (D.dset m)]:=λm hm=>by obtain⟨j,hj⟩:=f9g.1 hm;exact b66 c D (hE.inl hx hj)
     have d1:(t:Int)<S14.length:=by omega
     have hw:=wI1 (n:=t) (by omega);have n8:=λ(d:Bool) (H:a03)=>c2f (rl:=rl) (d:=d) hE H hx hL
     (repeat first|simp only[ww]|(apply xa;simp+decide only[go_sem,d1,bJ,hn,n8];rfl;kernel_rfl))
     refine d15 kp13_4 (a1p D.fs.length (D.sm n)) (λV=>[(8,.iptr [sl c.nc (c.nodes.map Nd.enc),sl c.mc (c.names.map a13),.nilslice,sl c.oc (c.outs.map a0a),sl rl (D.fs.map Flt.enc),.islice (D.G.map u8R) (some c.nodes.length),.islice (a9w c D) (some c.nodes.length),a1t a4v es]),(10,.map 0),(14,.int .i64 n),(45,sl r1 (S14.map a0a)),(46,.int .i64 S14.length),(47,.int .i64 t),(54,.ptr 1 0 0)])
      (λV=>[some (.uset (a1p D.fs.length λi=>(D.outT c.outs i||D.staT (S14.take t) i)||(met V i&&D.chg n 0 i))),some (.miter (a1p D.fs.length (D.sm n)) V none)]) 1 (.exit 4)
      [(56,.bool false),(55,.tuple [.bool false]),(8,.iptr [sl c.nc (c.nodes.map Nd.enc),sl c.mc (c.names.map a13),.nilslice,sl c.oc (c.outs.map a0a),sl rl (D.fs.map Flt.enc),.islice (D.G.map u8R) (some c.nodes.length),.islice (a9w c D) (some c.nodes.length),a1t a4v es]),(10,.map 0),(14,.int .i64 n),(45,sl r1 (S14.map a0a)),(46,.int .i64 S14.length),(47,.int .i64 t),(54,.ptr 1 0 0)] [some (.uset (a1p D.fs.length λi=>D.outT c.outs i||D.staT (S14.take (t+1)) i)),none] (b3d _ _) ?_ ?_ ?_ ?_ ?_
     ·have e:(a1p D.fs.length λi=>(D.outT c.outs i||D.staT (S14.take t) i)||(met [] i&&D.chg n 0 i))=a1p D.fs.length λi=>D.outT c.outs i||D.staT (S14.take t) i:=a19 λi _=>by simp[c5p]
      rw[e]
      (simp+decide only[go_sem,a02,a00,eu,e8]<;>rfl)<;>rfl
     ·intro V _ _;exact⟨rfl,none,rfl⟩
     ·intro V i h1 h2 h3 h4;obtain⟨j,rfl,hj,_⟩:=b0j.1 h3;obtain⟨f,hf⟩:∃f,D.fs[j]?=some f:=⟨_,z9e hj⟩
      have iI:=λ(d:Bool) (H:a03)=>c8d (rl:=rl) (d:=d) hE H hx hm hf (hL m (c11 hm));simp only[Int.natCast_zero]at iI;cases hq:D.chg n 0 j with
      |false=>
       rw[hq]at iI;have e2:(a1p D.fs.length λi=>(D.outT c.outs i||D.staT (S14.take t) i)||(met V i&&D.chg n 0 i))=a1p D.fs.length λi=>(D.outT c.outs i||D.staT (S14.take t) i)||(met (V++[(j:Int)]) i&&D.chg n 0 i):=a19 λk _=>by
        rw[b1v];by_cases hk:k=j
        ·subst hk;simp[hq]
        ·simp[hk]
       refine xq (by simp+decide only[go_sem]<;>rfl) ?_;rw[e2]
       (repeat first|simp only[ww]|(apply xa;simp+decide only[go_sem,iI];rfl;kernel_rfl))
       show gcD _ _ _ _=_
       (simp+decide only[go_sem,a02,a00,eu,e8]<;>rfl)<;>rfl
      |true=>
       rw[hq]at iI;have e1:=b6k (q:=λi=>(D.outT c.outs i||D.staT (S14.take t) i)||(met V i&&D.chg n 0 i)) hj;have e2:(a1p D.fs.length λi=>(D.outT c.outs i||D.staT (S14.take t) i)||(met V i&&D.chg n 0 i)||decide (i=j))=a1p D.fs.length λi=>(D.outT c.outs i||D.staT (S14.take t) i)||(met (V++[(j:Int)]) i&&D.chg n 0 i):=a19 λk _=>by
        rw[b1v];by_cases hk:k=j
        ·subst hk;simp[hq]
        ·simp[hk]
       rw[e2]at e1;refine xq (by simp+decide only[go_sem]<;>rfl) ?_
       (repeat first|simp only[ww]|(apply xa;simp+decide only[go_sem,iI,e1];rfl;kernel_rfl))
       show gcD _ _ _ _=_
       (simp+decide only[go_sem,a02,a00,eu,e8]<;>rfl)<;>rfl
     ·intro V hV;have e:(a1p D.fs.length λi=>(D.outT c.outs i||D.staT (S14.take t) i)||(met V i&&D.chg n 0 i))=a1p D.fs.length λi=>D.outT c.outs i||D.staT (S14.take (t+1)) i:=a19 λk hk=>by
       rw[c0w hV hk];show _=(D.outT c.outs k||(S14.take (t+1)).any λn=>D.chg n 0 k)
       rw[c8j hn,Bool.or_assoc]
       congr 2
       cases hq:D.chg n 0 k with
       |false=>simp
       |true=>rw[Ded.chg_sm (by rw[hE.ins hx];exact mX) hq];rfl
      refine xq (by simp+decide only[go_sem]<;>rfl) ?_;rw[e]
      (repeat first|simp only[ww]|(apply xa;simp+decide only[go_sem];rfl;kernel_rfl))
      exact⟨rfl,rfl,rfl⟩
     ·(repeat first|simp only[ww]|(apply xa;simp+decide only[go_sem,hw];rfl;kernel_rfl))
      refine a21 (t+1) ?_ (by omega) (by omega)
      (simp+decide only[go_sem,a02,a00,eu,e8]<;>rfl)<;>rfl
    ·obtain rfl:t=S14.length:=by omega
     have d1:¬(S14.length:Int)<S14.length:=by omega
     rw[f6i];have bh:=λ(R:a03)=>bh (some (.uset (a1p D.fs.length λi=>D.outT c.outs i||D.staT S14 i))::R) _ rfl;have dp:=b1r (a1p D.fs.length λi=>D.outT c.outs i||D.staT S14 i);generalize dsV (a1p D.fs.length λi=>D.outT c.outs i||D.staT S14 i)=RV at bh dp⊢
     (repeat first|simp only[ww]|(apply xa;simp+decide only[go_sem,d1,bh];rfl;kernel_rfl))
     refine a7j (vs:=[RV,.int .i64 0]) (by simp+decide only[go_sem]<;>rfl) (a7c (by simp only[a5q,a4a,a07,dp,a1u,b4t,f4g]))
theorem d94{d:Bool}(H:a03)(ho:∀n∈c.outs,n<c.nodes.length)(bW:c.outs.length<1000000):a0b L.env d (sem L.env Mf) (.func (.func 13) [] []) [.agg [sl c.nc (c.nodes.map Nd.enc),sl c.mc (c.names.map a13),.nilslice,sl c.oc (c.outs.map a0a)],sl rl (D.fs.map Flt.enc),.agg [sl p.ic (p.ins.map u8R),sl p.sc (p.sts.map u8R)]] H=some (.tuple [dsV (a1p D.fs.length λi=>D.outT c.outs i||D.staT (kinds c.nodes 14) i),.int .i64 0],H,[]):=a04 (by kernel_rfl) (by kernel_rfl) rfl (by simp only[e14,f4g,go_sem]) (e1j M C ho bW) (by simp only[a4a,a07,b1r,a1u,b4t,f4g])
end
end Go.TInst
