/- Part of a proof. No condition. -/
import Derived.Test.YtmiegcjnimlbmaaGreatDoorUTa
import Derived.Test.YtmiegcjnimlbmaaGreatDoorPcB
import Derived.Test.YtmiegcjnimlbmaaGreatDoorAxD
set_option linter.unusedSimpArgs false
set_option linter.unusedVariables false
namespace Go.UInst
set_option maxHeartbeats 200000000
open Go.Proofs Go.Ax Go.Pc
set_option maxRecDepth 100000
def gN(c:Cir)(ord x st:List Nat):List Nat:=c5b nAlg c.nodes hk0 ord (kinds c.nodes 0) (kinds c.nodes 14) x st
section
variable (c:Cir)(ord:List Nat)(A:List (Rep×List Nat))
def inA(i:Nat):List Nat:=(A.getD i (none,[])).2
def stA:Nat→List Nat
 |0=>List.replicate (kinds c.nodes 14).length 2
 |i+1=>a1q c.nodes (gN c ord (inA A i) (stA i))
def ouA(i:Nat):List Nat:=a14 c.outs (gN c ord (inA A i) (stA c ord A i))
def clR:List Nat→Rep|[]=>none|_::r=>some (some (r.length+1))
def ouB:List (Rep×List Nat):=(List.range A.length).map λj=>(clR (ouA c ord A j),ouA c ord A j)
def gdC:List (List UInt8):=d4j A (ouB c ord A)
end
theorem a86(l:List Nat):a2p l=sl (clR l) (l.map u8R):=by cases l<;>rfl
theorem a76{A:List (Rep×List Nat)}{i:Nat}{a:Rep×List Nat}(h:A[i]?=some a):inA A i=a.2:=by unfold inA;rw[List.getD_eq_getElem?_getD,h];rfl
theorem a9p{d:Bool}(H:a02)(c:Cir)(hc:c.wf)(hO:c.outs≠[])(p:Pat)(hp:PatOk c.nodes p)(ord:List Nat)(hord:OrdOf c ord) :
 a0a L.env d (sem L.env Mf) (.func (.func 23) [] []) [.agg c.enc,.agg p.enc] H=some (.tuple [a9r (a14 c.outs (gN c ord p.ins p.sts)) (a1q c.nodes (gN c ord p.ins p.sts)),.islice ((gN c ord p.ins p.sts).map u8R) (some c.nodes.length),.int .i64 0],H,[]):=
 a04 (by kernel_rfl) (by kernel_rfl) rfl (by simp only[List.nil_append,List.append_nil,a07,a0s,Cir.enc,Pat.enc,go_sem]) (c7n c hc hO p hp ord hord) (by simp only[a5h,a07,a5q,b2v,a9s,a12,List.append_nil])
theorem a91{d:Bool}(H:a02)(c:Cir)(hc:c.wf):a0a L.env d (sem L.env Mf) (.func (.func 22) [] []) [.agg c.enc] H=some (.agg (b06 c).enc,H,[]):=a04 (by kernel_rfl) (by kernel_rfl) rfl (by simp only[List.nil_append,List.append_nil];exact a49 c) (c78 c hc) (by simp only[a0s,Pat.enc,a07,a1b,a12,List.append_nil])
theorem c8m(nodes:List Nd)(N:List Nat):(a1q nodes N).length=(kinds nodes 14).length:=by simp[a1q]
theorem c3i(nodes:List Nd)(N:List Nat):∀v∈a1q nodes N,v≤2:=by intro v hv;obtain⟨n,_,rfl⟩:=List.mem_map.1 hv;unfold a58;omega
theorem c1c(c:Cir)(ord:List Nat)(A:List (Rep×List Nat)):∀i,(stA c ord A i).length=(kinds c.nodes 14).length
 |0=>by simp[stA]
 |i+1=>c8m _ _
theorem c33(c:Cir)(ord:List Nat)(A:List (Rep×List Nat)):∀i,∀v∈stA c ord A i,v≤2
 |0=>λv hv=>by rw[List.eq_of_mem_replicate hv];omega
 |i+1=>c3i _ _
theorem a5u(outs N:List Nat):(a14 outs N).length=outs.length:=by simp[a14]
theorem c3g(c:Cir)(ord:List Nat)(A:List (Rep×List Nat)){i:Nat}(hi:∀v∈inA A i,v≤3):∀v∈ouA c ord A i,v≤3:=by intro v hv;obtain⟨n,_,rfl⟩:=List.mem_map.1 hv;exact b29 (b7i d6e _ _ _ _ _ hi (λv hv=>by have:=c33 c ord A i v hv;omega)) n
theorem c1q(c:Cir)(ord:List Nat)(A:List (Rep×List Nat)):(ouB c ord A).length=A.length:=by simp[ouB]
theorem c8e(c:Cir)(ord:List Nat)(A:List (Rep×List Nat)){j:Nat}(h:j<A.length):(ouB c ord A)[j]?=some (clR (ouA c ord A j),ouA c ord A j):=by unfold ouB;rw[List.getElem?_map,List.getElem?_range h];rfl
def stR(c:Cir)(ord:List Nat)(A:List (Rep×List Nat)):Nat→Rep
 |0=>some (some (kinds c.nodes 14).length)
 |i+1=>clR (stA c ord A (i+1))
theorem b48(l:List Nat):(a2p l).cells=[a2p l]:=by cases l<;>rfl
theorem d0u(l:List Nat):(a2p l).isJunk=false:=by cases l<;>rfl
def zfo(n m i:Nat):List (List (List AV)):=(List.range n).map λj=>if j<i then List.replicate m [.int .u8 0]else[]
theorem b2g(n m i:Nat):(zfo n m i).length=n:=by simp[zfo]
theorem b2h{n m i j:Nat}(h:j<n):(zfo n m i)[j]?=some (if j<i then List.replicate m [.int .u8 0]else[]):=by unfold zfo;rw[List.getElem?_map,List.getElem?_range h];rfl
theorem d6x{n m i:Nat}(h:i<n):(zfo n m i).set i (List.replicate m [.int .u8 0])=zfo n m (i+1):=by
 apply List.ext_getElem?;intro j;rw[List.getElem?_set,b2g];by_cases hj:j<n
 ·rw[b2h hj,b2h hj];by_cases e:i=j
  ·subst e;rw[if_pos rfl,if_pos hj,if_pos (by omega)]
  ·rw[if_neg e];by_cases h2:j<i
   ·rw[if_pos h2,if_pos (by omega)]
   ·rw[if_neg h2,if_neg (by omega)]
 ·have e:∀i,(zfo n m i)[j]?=none:=λi=>List.getElem?_eq_none (by rw[b2g];omega);rw[e,e,if_neg (by omega)]
theorem d1v(H:a02)(b n m:Nat)(h:a01 H b=some (.row 1 (List.replicate n [.nilslice]))):Two H b 1 (λ_=>0) (λ_=>some m) (zfo n m 0):=by
 have hz:zfo n m 0=List.replicate n []:=by unfold zfo;rw[show(λj:Nat=>if j<0 then List.replicate m [AV.int .u8 0]else[])=λ_=>[]from by funext j;rw[if_neg (Nat.not_lt_zero j)],List.map_const',List.length_range]
 rw[hz];have hno:∀(j:Nat) (f:List (List AV)),(List.replicate n ([]:List (List AV)))[j]?=some f→f=[]:=by
  intro j f hf;rw[List.getElem?_replicate]at hf;split at hf
  ·cases hf;rfl
  ·cases hf
 refine⟨?_,λj f hf hne=>absurd (hno j f hf) hne,λi j f g hf _ hne=>absurd (hno i f hf) hne,λf hf=>by rw[List.eq_of_mem_replicate hf];exact FlatR.nil⟩;rw[h]
 congr 2
 unfold a2c;apply List.ext_getElem?;intro j;rw[List.getElem?_mapIdx,List.getElem?_replicate,List.getElem?_replicate];split<;>rfl
theorem d6y(n m:Nat)(hm:0<m):(zfo n m n).mapIdx (λj f=>[slF (some m) f])=List.replicate n [.islice (List.replicate m [.int .u8 0]) (some m)]:=by
 apply List.ext_getElem?;intro j;rw[List.getElem?_mapIdx,List.getElem?_replicate];by_cases h:j<n
 ·rw[b2h h,if_pos h,if_pos h];obtain⟨q,rfl⟩:∃q,m=q+1:=⟨m-1,by omega⟩
  rfl
 ·rw[List.getElem?_eq_none (by rw[b2g];omega),if_neg h];rfl
theorem d8y(c:Cir)(hc:c.wf){k m:Nat}(ht:Tio c k m)(ord:List Nat)(hord:OrdOf c ord)(ra:Rep)(A:List (Rep×List Nat))(hAl:A.length≤1000)(hA:∀a∈A,a.2.length=k∧∀v∈a.2,v≤3) :
 sem L.env Mf 25 [.agg c.enc,sl ra (A.map vlR)] []=some (.tuple [.agg (a96 (sgs k m) (gdC c ord A)),.int .i64 0],[]):=by
 have hsg:=λ(d:Bool) (H:a02)=>a7r (d:=d) H c hc ht;have hft:=λ(H:a02) (W:AV) (hW:a3a 0 false (a4h (a01 H) 0 12) W=some (sl (some (some A.length)) ((List.replicate A.length ((some (some m),List.replicate m 0):Rep×List Nat)).map vlR)))=>b5c (d:=false) (H:=H) c hc ht (ra:=ra) (rb:=some (some A.length)) (A:=A) (B:=List.replicate A.length (some (some m),List.replicate m 0)) hAl (by simp) hA (λa ha=>by rw[List.eq_of_mem_replicate ha];exact⟨by simp,λv hv=>by rw[List.eq_of_mem_replicate hv];omega⟩) (a0j _ _ _ _ (a1b _ _)) hW;have hbl:=λ(d:Bool) (H:a02)=>a91 (d:=d) H c hc;have hO:c.outs≠[]:=by intro e;have:=ht.out;have:=ht.m1;rw[e]at *;simp at *;omega
 have hru:=λ(d:Bool) (H:a02) (p:Pat) (hp:PatOk c.nodes p)=>a9p (d:=d) H c hc hO p hp ord hord;have hkl:(kinds c.nodes 0).length=k:=by rw[ht.ins];simp
 have hol:∀i,(ouA c ord A i).length=m:=λi=>by unfold ouA;rw[a5u,ht.out]
 have hcm:=λ(H:a02)=>c0c (d:=false) H c hc ht ra (some (some A.length)) A (ouB c ord A) hAl (c1q c ord A).symm hA (λa ha=>by obtain⟨j,hj,rfl⟩:=List.mem_map.1 ha;have hjl:=List.mem_range.1 hj;refine⟨hol j,c3g c ord A (λv hv=>?_)⟩;rw[a76 (z9e hjl)]at hv;exact(hA _ (List.getElem_mem hjl)).2 v hv);obtain⟨t1,t2,t3,t4,t5,t6⟩:=ht;have hn:=hc.len;have hsl:=a46 k m;obtain⟨S,hS⟩:∃S,AV.islice ((sgs k m).map Sgn.row) (some (k+m))=S:=⟨_,rfl⟩
 rw[hS]at hsg;obtain⟨V,hV⟩:∃V,b1t (gdC c ord A)=V:=⟨_,rfl⟩
 have hVr:refs V=[]:=by rw[←hV];exact a6i _
 have hVs:V.storable=true:=by rw[←hV];cases gdC c ord A<;>rfl
 have hVc:V.cells=[V]:=by rw[←hV];cases gdC c ord A<;>rfl
 have hpr:a96 (sgs k m) (gdC c ord A)=[S,.islice [tmR] (some 1),V]:=by unfold a96;rw[hsl,hS,hV]
 have hSr:refs S=[]:=by rw[←hS];rfl
 have hSs:S.storable=true:=by rw[←hS];rfl
 have hSf:∀m t d,a3a m t d S=some S:=λm t d=>a0j m t d _ hSr;have hVf:∀m t d,a3a m t d V=some V:=λm t d=>a0j m t d _ hVr;have hcr:gdC c ord A=d4j A (ouB c ord A):=rfl;rw[←hcr,hpr]at hcm;rw[hpr];simp only[Cir.enc]at hsg hft hbl hru hcm⊢;have hCf:∀π:Nat→Option Nat,a0f π (.row 4 [[sl c.nc (c.nodes.map Nd.enc),sl c.mc (c.names.map a1h),.nilslice,sl c.oc (c.outs.map a0h)]]) = .row 4 [[sl c.nc (c.nodes.map Nd.enc),sl c.mc (c.names.map a1h),.nilslice,sl c.oc (c.outs.map a0h)]]:=λπ=>by simp+decide only[go_sem]
 have hCr:a0y (some (.row 4 [[sl c.nc (c.nodes.map Nd.enc),sl c.mc (c.names.map a1h),.nilslice,sl c.oc (c.outs.map a0h)]]))=[]:=by simp+decide only[go_sem]
 have hNf:∀π:Nat→Option Nat,a0f π (.row 3 [[.nilslice,.nilslice,.nilslice]]) = .row 3 [[.nilslice,.nilslice,.nilslice]]:=λπ=>by simp+decide only[go_sem]
 have hNr:a0y (some (.row 3 [[.nilslice,.nilslice,.nilslice]]))=[]:=by simp+decide only[go_sem]
 have hrm:A.length≤1000000000:=by omega
 (refine sv Tryz.f25 ?_;simp only[Tryz.f25,gS])
 (repeat first|simp only[ww]|(apply xa;simp+decide only[go_sem,hsg,hrm,List.length_map];rfl;kernel_rfl))
 have head0:∀(i cb pb b:Nat) (ids:Nat→Nat) (H2:a02),i≤A.length→a01 H2 cb=some (.row 4 [[sl c.nc (c.nodes.map Nd.enc),sl c.mc (c.names.map a1h),.nilslice,sl c.oc (c.outs.map a0h)]])→a01 H2 pb=some (.row 3 [[.nilslice,.nilslice,.nilslice]])→Two H2 b 1 ids (λ_=>some m) (zfo A.length m i)→∀F1:Frm,a0e ((a1r [1,2,4,8,30,31,1000003] F1).map (·.2))=[cb,pb,b]→
  (∀π,b5m π (a1r [1,2,4,8,30,31,1000003] F1)=[(1,sl ra (A.map vlR)),(2,ren π (.ptr cb 0 0)),(4,ren π (.ptr pb 0 0)),(8,ren π (.slice b 0 A.length (some A.length))),(30,.int .i64 A.length),(31,.int .i64 (i:Nat)),(1000003,.junk)])→∃F H,gcD 0 [1,2,4,8,30,31,1000003] F1 H2=some (F,H)∧
  ∃(i':Nat) (ids:Nat→Nat),A.length-i=A.length-i'∧i'≤A.length∧F=[(1,sl ra (A.map vlR)),(2,.ptr 0 0 0),(4,.ptr 1 0 0),(8,.slice 2 0 A.length (some A.length)),(30,.int .i64 A.length),(31,.int .i64 (i':Nat)),(1000003,.junk)]∧a01 H 0=some (.row 4 [[sl c.nc (c.nodes.map Nd.enc),sl c.mc (c.names.map a1h),.nilslice,sl c.oc (c.outs.map a0h)]])∧a01 H 1=some (.row 3 [[.nilslice,.nilslice,.nilslice]])∧Two H 2 1 ids (λ_=>some m) (zfo A.length m i'):=by
  intro i cb pb b ids H2 hi h1 h2 hT F1 hF1 hF2;have hcp:cb≠pb:=by intro e;rw[e,h2]at h1;cases h1
  obtain⟨hcb,_⟩:=hT.apart h1 (by omega) (by omega);obtain⟨hpb,_⟩:=hT.apart h2 (by omega) (by omega);obtain⟨F,H,hg,cb',pb',b',ids',e1,e2,e3,e4⟩:=hT.headX (F:=F1) (keep:=[1,2,4,8,30,31,1000003]) (P:=λF H=>∃(cb' pb' b':Nat) (ids':Nat→Nat),F=[(1,sl ra (A.map vlR)),(2,.ptr cb' 0 0),(4,.ptr pb' 0 0),(8,.slice b' 0 A.length (some A.length)),(30,.int .i64 A.length),(31,.int .i64 (i:Nat)),(1000003,.junk)]∧a01 H cb'=some (.row 4 [[sl c.nc (c.nodes.map Nd.enc),sl c.mc (c.names.map a1h),.nilslice,sl c.oc (c.outs.map a0h)]])∧a01 H pb'=some (.row 3 [[.nilslice,.nilslice,.nilslice]])∧Two H b' 1 ids' (λ_=>some m) (zfo A.length m i)) [cb,pb]
   (by intro x hx;simp only[List.mem_cons,List.not_mem_nil,or_false]at hx;rcases hx with rfl|rfl;rw[h1];exact hCr;rw[h2];exact hNr) (by rw[hF1];simp) (by rw[hF1];simp) (by rw[hF1];simp) (by rw[hF1];simp) (by rw[b2g];omega) (by
    intro π b' ids' H1 hb hT2 hXX;obtain⟨cb',e1,e2⟩:=hXX cb (by simp);obtain⟨pb',e3,e4⟩:=hXX pb (by simp);refine⟨cb',pb',b',ids',?_,?_,?_,hT2⟩
    ·rw[hF2];simp+decide only[go_sem,e1,e3,hb]<;>rfl
    ·rw[e2,h1];show some (a0f π _)=_;rw[hCf]
    ·rw[e4,h2];show some (a0f π _)=_;rw[hNf])
  obtain⟨π,f1,f2,f3,f4⟩:=d01 hg hF1 (by rw[h1];exact hCr) (by rw[h2];exact hNr) hcp hcb hpb;rw[hF2]at f1;have f5:F=[(1,sl ra (A.map vlR)),(2,.ptr 0 0 0),(4,.ptr 1 0 0),(8,.slice 2 0 A.length (some A.length)),(30,.int .i64 A.length),(31,.int .i64 (i:Nat)),(1000003,.junk)]:=by rw[f1];simp+decide only[go_sem,f2,f3,f4]<;>rfl
  have f6:=e1.symm.trans f5;simp only[List.cons.injEq,Prod.mk.injEq,AV.ptr.injEq,AV.slice.injEq,true_and,and_true]at f6;obtain⟨rfl,rfl,rfl⟩:=f6;exact⟨F,H,hg,i,ids',rfl,hi,e1,e2,e3,e4⟩
 refine c0w kp25_0 rfl 3 rfl (λN F H=>∃(i:Nat) (ids:Nat→Nat),N=A.length-i∧i≤A.length∧F=[(1,sl ra (A.map vlR)),(2,.ptr 0 0 0),(4,.ptr 1 0 0),(8,.slice 2 0 A.length (some A.length)),(30,.int .i64 A.length),(31,.int .i64 (i:Nat)),(1000003,.junk)]∧a01 H 0=some (.row 4 [[sl c.nc (c.nodes.map Nd.enc),sl c.mc (c.names.map a1h),.nilslice,sl c.oc (c.outs.map a0h)]])∧a01 H 1=some (.row 3 [[.nilslice,.nilslice,.nilslice]])∧Two H 2 1 ids (λ_=>some m) (zfo A.length m i)) (A.length-0) ?_ ?_
 ·refine head0 0 0 1 2 (λ_=>0) _ (Nat.zero_le _) rfl rfl (d1v _ _ _ _ rfl) _ (by simp+decide only[go_sem]<;>rfl) (λπ=>by simp+decide only[go_sem]<;>rfl)
 ·rintro N F H ⟨i,ids,rfl,hi,rfl,hcb,hpb,hT⟩
  by_cases hlt:i<A.length
  ·have d1:(i:Int)<A.length:=by omega
   have hwi:=wI1 (n:=i) (by omega);have hcl:=a1c hcb;have hpl:=a1c hpb;have hbl2:=a1c hT.top;have htop:=hT.top;have hget:=a51 (ids:=ids) (cp:=λ_=>some m) (b2h (n:=A.length) (m:=m) (i:=i) hlt);rw[if_neg (Nat.lt_irrefl i)]at hget;simp only[slV]at hget;have hrl:(a2c ids (λ_=>some m) (zfo A.length m i)).length=A.length:=by rw[a2l,b2g]
   have hrm2:m≤1000000000:=by omega
   have hH2:H.length≠2:=by omega
   have hH2':(2<H.length)=True:=by simpa using hbl2
   (repeat first|simp only[ww]|(apply xa;simp+decide only[go_sem,d1,t4,hlt,hcb,hpb,htop,hget,hrl,hrm2,hwi,hcl,hpl,hbl2,a6q,a77,b98,b0h,List.length_map,List.length_set,b0s,a9w];rfl;kernel_rfl))
   have hz0:List.replicate m [AV.int .u8 0]≠[]:=by intro e;have:=congrArg List.length e;simp at this;omega
   have hzf:FlatR (List.replicate m [AV.int .u8 0]):=λr hr=>by rw[List.eq_of_mem_replicate hr];rfl
   have hT2:Two (H.set 2 (some (.row 1 ((a2c ids (λ_=>some m) (zfo A.length m i)).set i [.slice H.length 0 m (some m)])))++[some (.row 1 (List.replicate m [.int .u8 0]))]) 2 1 (λj=>if j=i then H.length else ids j) (λ_=>some m) (zfo A.length m (i+1)):=by
    rw[←d6x hlt];refine hT.put (by rw[b2h hlt,if_neg (Nat.lt_irrefl i)]) hz0 hzf (Nat.le_refl _) ?_ ?_ ?_
    ·rw[a39 hbl2,if_pos rfl,List.length_replicate]
    ·have:=a5v (H:=H) (L:=[some (AObj.row 1 (List.replicate m [AV.int .u8 0]))]) (a:=2) (o:=some (.row 1 ((a2c ids (λ_=>some m) (zfo A.length m i)).set i [.slice H.length 0 m (some m)]))) 0;rw[Nat.add_zero]at this;rw[this];rfl
    ·intro j g hij hg hne;obtain⟨g1,g2⟩:=hT.sub j g hg hne;rw[a39 (a1c g1),if_neg (Ne.symm g2)]
   exact a1j (A.length-(i+1)) (by omega) (head0 (i+1) 0 1 2 _ _ hlt (by rw[a39 hcl,if_neg (by omega),hcb]) (by rw[a39 hpl,if_neg (by omega),hpb]) hT2 _ (by simp+decide only[go_sem]<;>rfl) (λπ=>by simp+decide only[go_sem]<;>rfl))
  ·obtain rfl:i=A.length:=by omega
   have d1:¬(A.length:Int)<A.length:=by omega
   (repeat first|simp only[ww]|(apply xa;simp+decide only[go_sem,d1,List.length_map];rfl;kernel_rfl))
   -- frozen
   obtain⟨hac,haC⟩:=hT.apart hcb (by omega) (by omega);obtain⟨hap,haP⟩:=hT.apart hpb (by omega) (by omega);have hids:∀j f,(zfo A.length m A.length)[j]?=some f→f≠[]→3≤ids j:=λj f h1 h2=>by have e1:=haC j f h1 h2;have e2:=haP j f h1 h2;have e3:=(hT.sub j f h1 h2).2;omega
   have hfz:=hT.frzT 3 hids;rw[d6y _ _ t5]at hfz;have hH3:b0e 3 H=[some (.row 4 [[sl c.nc (c.nodes.map Nd.enc),sl c.mc (c.names.map a1h),.nilslice,sl c.oc (c.outs.map a0h)]]),some (.row 3 [[.nilslice,.nilslice,.nilslice]]),some (.row 1 (List.replicate A.length [.islice (List.replicate m [.int .u8 0]) (some m)]))]:=by have hc0:FlatR [[sl c.nc (c.nodes.map Nd.enc),sl c.mc (c.names.map a1h),.nilslice,sl c.oc (c.outs.map a0h)]]:=FlatR.cons (a3q c) FlatR.nil;have hn0:FlatR [[AV.nilslice,AV.nilslice,AV.nilslice]]:=FlatR.cons rfl FlatR.nil;unfold b0e;rw[c4q hcb hpb hT.top];simp only[List.map_cons,List.map_nil,Option.map_some,a9e,a4g hc0,a4g hn0,hfz]
   rw[d05];simp only[List.length_nil,Nat.zero_add,hH3];simp+decide only[go_sem];obtain⟨z,hz⟩:∃z,[AV.islice (List.replicate m [AV.int .u8 0]) (some m)]=z:=⟨_,rfl⟩
   have hzr:a0e z=[]:=by rw[←hz];rfl
   have hzv:z=vlR (some (some m),List.replicate m 0):=by rw[←hz];simp only[vlR,a4n,List.map_replicate];rfl
   rw[hz];have hft1:=λ(X Y:Option AObj)=>hft [X,Y,some (.row 1 (List.replicate A.length z))] (.slice 2 0 A.length (some A.length)) (by
    have h4:((List.replicate A.length z).drop 0).take A.length=List.replicate A.length z:=by rw[List.drop_zero];exact List.take_of_length_le (by simp)
    have h5:=a17 (m:=0) (d:=a4h (a01 [X,Y,some (.row 1 (List.replicate A.length z))]) 0 11) (rows:=List.replicate A.length z) (λr hr=>by rw[List.eq_of_mem_replicate hr];exact hzr);have h6:a01 [X,Y,some (.row 1 (List.replicate A.length z))] 2=some (.row 1 (List.replicate A.length z)):=rfl;rw[a4n,List.map_replicate,←hzv];simp+decide only[a5w,a4r,h6,a95,a0g,h4,h5,List.length_replicate,Nat.zero_add,Nat.le_refl,decide_true,decide_false,cond_true,cond_false])
   obtain⟨f,hf⟩:∃f:Nat→List AV,f=λj=>[a2p (ouA c ord A j)]:=⟨_,rfl⟩
   have hff:∀j,a0e (f j)=[]:=λj=>by rw[hf];simp only[a07,a18,a12,List.append_nil]
   have hbp:(b06 c).enc=[sl (b06 c).ic ((b06 c).ins.map u8R),sl (stR c ord A 0) ((stA c ord A 0).map u8R)]:=rfl;rw[hbp]at hbl;obtain⟨BI,hBI⟩:∃BI,sl (b06 c).ic ((b06 c).ins.map u8R)=BI:=⟨_,rfl⟩
   have hBr:refs BI=[]:=by rw[←hBI];exact a1b _ _
   have hBn:∀π,ren π BI=BI:=λπ=>a0d π _ hBr;have hBs:BI.storable=true:=by rw[←hBI];rfl
   have hBc:BI.cells=[BI]:=by rw[←hBI];rfl
   rw[hBI]at hbl
   (repeat first|simp only[ww]|(apply xa;simp+decide only[go_sem,hft1,hbl,hBs,hBc];rfl;kernel_rfl))
   refine b2i kp25_2 rfl 2 rfl (σ:=Nat) (λi=>[(1,sl ra (A.map vlR)),(2,.ptr 0 0 0),(4,.ptr 1 0 0),(8,.slice 2 0 A.length (some A.length)),(11,.ptr 3 0 0),(52,sl ra (A.map vlR)),(53,.int .i64 A.length),(54,.int .i64 i),(1000002,.junk)])
    (λi=>[some (.row 4 [[sl c.nc (c.nodes.map Nd.enc),sl c.mc (c.names.map a1h),.nilslice,sl c.oc (c.outs.map a0h)]]),some (.row 3 [[.nilslice,.nilslice,.nilslice]]),some (.row 1 (upT f z A.length i)),some (.row 2 [[BI,sl (stR c ord A i) ((stA c ord A i).map u8R)]])]) (λi=>A.length-i) (λi=>i≤A.length) 0 ?_ (Nat.zero_le _) ?_
   ·rw[←c73 (f:=f)];have h1:=a08 (a2t (f:=f) (z:=z) (n:=A.length) (i:=0) hzr hff);have h2:=λπ=>a06 π (a2t (f:=f) (z:=z) (n:=A.length) (i:=0) hzr hff)
    (simp+decide only[go_sem,a03,a00,h1,h2,hBr,hBn,List.length_map]<;>rfl)<;>rfl
   ·intro i hi;by_cases hlt:i<A.length
    ·have d1:(i:Int)<A.length:=by omega
     have hwi:=wI1 (n:=i) (by omega);obtain⟨a,ha⟩:∃a,A[i]?=some a:=⟨_,z9e hlt⟩
     obtain⟨a1,a2⟩:=hA a (List.mem_of_getElem? ha);have har:vlR a=[sl a.1 (a.2.map u8R)]:=rfl;have hp:PatOk c.nodes ⟨a.1,a.2,stR c ord A i,stA c ord A i⟩:=⟨by rw[hkl];exact a1,c1c c ord A i,a2,λv hv=>by have:=c33 c ord A i v hv;omega⟩
     have hr:=λ(d:Bool) (H:a02)=>hru d H _ hp;have e1:a14 c.outs (gN c ord a.2 (stA c ord A i))=ouA c ord A i:=by unfold ouA;rw[a76 ha]
     have e2:a1q c.nodes (gN c ord a.2 (stA c ord A i))=stA c ord A (i+1):=by show _=a1q c.nodes (gN c ord (inA A i) (stA c ord A i));rw[a76 ha]
     simp only[Pat.enc,e1,e2]at hr;have e3:a2p (stA c ord A (i+1))=sl (stR c ord A (i+1)) ((stA c ord A (i+1)).map u8R):=a86 _;have hfi:f i=[a2p (ouA c ord A i)]:=by rw[hf]
     have hset:=b2l (f:=f) (z:=z) hlt;have hat:=c30 (f:=f) (z:=z) hlt;have hln:=a6c (f:=f) (z:=z) (n:=A.length) (i:=i);rw[hfi]at hset;have h1:=a08 (a2t (f:=f) (z:=z) (n:=A.length) (i:=i+1) hzr hff);have h2:=λπ=>a06 π (a2t (f:=f) (z:=z) (n:=A.length) (i:=i+1) hzr hff);unfold a9r at hr;rw[e3]at hr;have c1:=a1d (ouA c ord A i);have c2:=b48 (ouA c ord A i);have c3:=d0u (ouA c ord A i);have hzl:z.length=1:=by rw[←hz];rfl
     have hzd:z.drop 1=[]:=List.drop_of_length_le (by omega);generalize a2p (ouA c ord A i)=CO at hr hset c1 c2 c3;generalize(gN c ord a.2 (stA c ord A i)).map u8R=GN at hr
     (repeat first|simp only[ww]|(apply xa;simp+decide only[go_sem,d1,hlt,ha,har,hwi,hr,hat,hln,hset,hzl,hzd,hBs,hBc,c1,c2,c3,List.length_map];rfl;kernel_rfl))
     refine a27 (i+1) ?_ (by omega) (by omega)
     (simp+decide only[go_sem,a03,a00,h1,h2,hBr,hBn,List.length_map]<;>rfl)<;>rfl
    ·obtain rfl:i=A.length:=by omega
     have d1:¬(A.length:Int)<A.length:=by omega
     have hue:upT f z A.length A.length=(ouB c ord A).map vlR:=by rw[b6z,hf];unfold ouB;rw[List.map_map];exact List.map_congr_left λj _=>by rw[a86];rfl
     have hul:=a6c (f:=f) (z:=z) (n:=A.length) (i:=A.length);rw[hue]at hul;rw[hue];have huf:=d98 (ouB c ord A);simp only[a4n]at hcm;generalize(ouB c ord A).map vlR=U at hul huf hcm;have hc0:FlatR [[sl c.nc (c.nodes.map Nd.enc),sl c.mc (c.names.map a1h),.nilslice,sl c.oc (c.outs.map a0h)]]:=FlatR.cons (a3q c) FlatR.nil;have hn0:FlatR [[AV.nilslice,AV.nilslice,AV.nilslice]]:=FlatR.cons rfl FlatR.nil;have hH2:∀Y:Option AObj,b0e 2 [some (.row 4 [[sl c.nc (c.nodes.map Nd.enc),sl c.mc (c.names.map a1h),.nilslice,sl c.oc (c.outs.map a0h)]]),some (.row 3 [[.nilslice,.nilslice,.nilslice]]),some (.row 1 U),Y]=[some (.row 4 [[sl c.nc (c.nodes.map Nd.enc),sl c.mc (c.names.map a1h),.nilslice,sl c.oc (c.outs.map a0h)]]),some (.row 3 [[.nilslice,.nilslice,.nilslice]])]:=λY=>by unfold b0e;simp only[List.take_succ_cons,List.take_zero,List.map_cons,List.map_nil,Option.map_some,a9e,a4g hc0,a4g hn0]
     have hfr:=λm d=>a17 (m:=m) (d:=d) huf;have htk:U.take A.length=U:=List.take_of_length_le (by omega)
     (repeat first|simp only[ww]|(apply xa;simp+decide only[go_sem,d1];rfl;kernel_rfl))
     rw[d05];simp only[Nat.zero_add,hH2];simp+decide only[go_sem,hfr,htk,hul]
     (repeat first|simp only[ww]|(apply xa;simp+decide only[go_sem,hcm,hSs,hVs,hVc];rfl;kernel_rfl))
     (apply fqb;simp+decide only[go_sem,hSf,hVf]<;>rfl)
theorem c9y{d:Bool}(H:a02)(c:Cir)(hc:c.wf){k m:Nat}(ht:Tio c k m)(ord:List Nat)(hord:OrdOf c ord)(ra:Rep)(A:List (Rep×List Nat))(hAl:A.length≤1000)(hA:∀a∈A,a.2.length=k∧∀v∈a.2,v≤3) :
 a0a L.env d (sem L.env Mf) (.func (.func 25) [] []) [.agg c.enc,sl ra (A.map vlR)] H=some (.tuple [.agg (a96 (sgs k m) (gdC c ord A)),.int .i64 0],H,[]):=
 a04 (by kernel_rfl) (by kernel_rfl) rfl (by simp only[List.nil_append,List.append_nil,a07,a1b,a12,a0s];exact a3q c) (d8y c hc ht ord hord ra A hAl hA) (by simp only[a5h,a07,a0s,a5s,a12,a9s,List.append_nil])
theorem c7c(s:Sgn)(h:b8t s.nm)(hd:s.dir≤1):sem L.env Mf 47 [.agg s.row] []=some (.bool true,[]):=by
 have hn:=λ(d:Bool) (H:a02)=>b5r (d:=d) h H;have c1:(s.dir:Int)≤1:=by omega
 simp only[Sgn.row]
 (refine sv Tryz.f47 ?_;simp only[Tryz.f47,gS])
 (repeat first|simp only[ww]|(apply xa;simp+decide only[go_sem,hn,c1];rfl;kernel_rfl))
 (apply fqb;simp+decide only[go_sem]<;>rfl)
theorem c17{d:Bool}(H:a02)(s:Sgn)(h:b8t s.nm)(hd:s.dir≤1):a0a L.env d (sem L.env Mf) (.func (.func 47) [] []) [.agg s.row] H=some (.bool true,H,[]):=a04 (by kernel_rfl) (by kernel_rfl) rfl rfl (c7c s h hd) rfl
theorem c14{d:Bool}(H:a02):a0a L.env d (sem L.env Mf) (.func (.func 48) [] []) [.agg tmR] H=some (.bool true,H,[]):=a04 (by kernel_rfl) (by kernel_rfl) rfl rfl (a0o (E:=L.env) a0n 60 (by kernel_rfl)) rfl
def d1p(dir:Nat)(b:UInt8):Prop:=(dir=0∧(b=48∨b=49∨b=88))∨(dir=1∧(b=76∨b=72∨b=88))
theorem e8f{b:UInt8}(h:b=48∨b=49∨b=88):∃n:Nat,sem L.env Mf 95 [.str [48,49,88,80],.int .u8 b.toNat] []=some (.int .i64 n,[]):=by
 rcases h with rfl|rfl|rfl
 ·exact⟨0,a0o (E:=L.env) a0n 60 (by kernel_rfl)⟩
 ·exact⟨1,a0o (E:=L.env) a0n 60 (by kernel_rfl)⟩
 ·exact⟨2,a0o (E:=L.env) a0n 60 (by kernel_rfl)⟩
theorem e3n{b:UInt8}(h:b=76∨b=72∨b=88):∃n:Nat,sem L.env Mf 95 [.str [76,72,88],.int .u8 b.toNat] []=some (.int .i64 n,[]):=by
 rcases h with rfl|rfl|rfl
 ·exact⟨0,a0o (E:=L.env) a0n 60 (by kernel_rfl)⟩
 ·exact⟨1,a0o (E:=L.env) a0n 60 (by kernel_rfl)⟩
 ·exact⟨2,a0o (E:=L.env) a0n 60 (by kernel_rfl)⟩
structure VecOk(sg:List Sgn)(s:List UInt8):Prop where
 len:s.length=sg.length
 cell:∀(i:Nat) (g:Sgn) (b:UInt8),sg[i]?=some g→s[i]?=some b→d1p g.dir b
theorem c6z(sg:List Sgn)(vs:List (List UInt8))(s:List UInt8)(hs:VecOk sg s)(hl:sg.length≤1000):sem L.env Mf 49 [.agg (vcR s),.agg (a96 sg vs)] []=some (.bool true,[]):=by
 obtain⟨T,hT⟩:∃T,b1t vs=T:=⟨_,rfl⟩
 have hTr:refs T=[]:=by rw[←hT];exact a6i _
 have hTs:T.storable=true:=by rw[←hT];cases vs<;>rfl
 have hpr:a96 sg vs=[.islice (sg.map Sgn.row) (some sg.length),.islice [tmR] (some 1),T]:=by unfold a96;rw[hT]
 rw[hpr];have hsl:=hs.len;simp only[vcR]
 (refine sv Tryz.f49 ?_;simp only[Tryz.f49,gS])
 (repeat first|simp only[ww]|(apply xa;simp+decide only[go_sem,hTs,hsl,List.length_map];rfl;kernel_rfl))
 refine a0p (σ:=Nat) kp49_0 (λi=>[(2,.ptr 0 0 0),(39,.islice (sg.map Sgn.row) (some sg.length)),(40,.int .i64 sg.length),(41,.int .i64 i)])
  (λi=>[some (.row 3 [[.int .i64 0,.str s,.int .i64 1]])]) (λi=>sg.length-i) (λi=>i≤sg.length) 0 ?_ (Nat.zero_le _) ?_
 ·(simp+decide only[go_sem,a03,a00,List.length_map]<;>rfl)<;>rfl
 ·intro i hi;by_cases hlt:i<sg.length
  ·obtain⟨g,hg⟩:∃g,sg[i]?=some g:=⟨_,z9e hlt⟩
   obtain⟨b,hb⟩:∃b,s[i]?=some b:=⟨_,z9e (by omega)⟩
   have d1:(i:Int)<sg.length:=by omega
   have hwi:=wI1 (n:=i) (by omega);have hgr:g.row=[.str g.nm,.int .u8 g.dir]:=rfl;rcases hs.cell i g b hg hb with ⟨hd,hc⟩|⟨hd,hc⟩
   ·obtain⟨n,hn⟩:=e8f hc;have hib:=λ(d:Bool) (H:a02)=>a04 (E:=L.env) (draw:=d) (call:=sem L.env Mf) (g:=95) (fs:=[]) (cs:=[]) (ar:=[.str [48,49,88,80],.int .u8 b.toNat]) (H:=H) (by kernel_rfl) (by kernel_rfl) rfl rfl hn rfl;have e1:¬(g.dir:Int)=1:=by omega
    have e2:¬(n:Int)<0:=by omega
    (repeat first|simp only[ww]|(apply xa;simp+decide only[go_sem,d1,hlt,hg,hgr,hb,hib,e1,e2,hwi,hsl,List.length_map];rfl;kernel_rfl))
    refine a27 (i+1) ?_ (by omega) (by omega)
    (simp+decide only[go_sem,a03,a00]<;>rfl)<;>rfl
   ·obtain⟨n,hn⟩:=e3n hc;have hib:=λ(d:Bool) (H:a02)=>a04 (E:=L.env) (draw:=d) (call:=sem L.env Mf) (g:=95) (fs:=[]) (cs:=[]) (ar:=[.str [76,72,88],.int .u8 b.toNat]) (H:=H) (by kernel_rfl) (by kernel_rfl) rfl rfl hn rfl;have e1:(g.dir:Int)=1:=by omega
    have e2:¬(n:Int)<0:=by omega
    (repeat first|simp only[ww]|(apply xa;simp+decide only[go_sem,d1,hlt,hg,hgr,hb,hib,e1,e2,hwi,hsl,List.length_map];rfl;kernel_rfl))
    refine a27 (i+1) ?_ (by omega) (by omega)
    (simp+decide only[go_sem,a03,a00]<;>rfl)<;>rfl
  ·obtain rfl:i=sg.length:=by omega
   have d1:¬(sg.length:Int)<sg.length:=by omega
   (repeat first|simp only[ww]|(apply xa;simp+decide only[go_sem,d1];rfl;kernel_rfl))
   (apply fqb;simp+decide only[go_sem]<;>rfl)
theorem c0y{d:Bool}(H:a02)(sg:List Sgn)(vs:List (List UInt8))(s:List UInt8)(hs:VecOk sg s)(hl:sg.length≤1000):a0a L.env d (sem L.env Mf) (.func (.func 49) [] []) [.agg (vcR s),.agg (a96 sg vs)] H=some (.bool true,H,[]):=a04 (by kernel_rfl) (by kernel_rfl) rfl (by simp only[List.nil_append,List.append_nil,a07,a0s,a5s,a12];rfl) (c6z sg vs s hs hl) rfl
/- names that differ -/
def b0g(l:List (List UInt8)):List (List AV):=l.map λs=>[.str s]
theorem d76:sem L.env Mf 50 [.islice (b0g [[116]]) none] []=some (.bool false,[]):=a0o (E:=L.env) a0n 60 (by kernel_rfl)
set_option maxRecDepth 1000000 in
theorem d22(k m:Nat)(k1:1≤k)(k4:k≤4)(m1:1≤m)(m4:m≤4):sem L.env Mf 50 [.islice (b0g (nms k m)) none] []=some (.bool false,[]):=by
 have hk:k=1∨k=2∨k=3∨k=4:=by omega
 have hm:m=1∨m=2∨m=3∨m=4:=by omega
 rcases hk with rfl|rfl|rfl|rfl<;>rcases hm with rfl|rfl|rfl|rfl<;>exact a0o (E:=L.env) a0n 60 (by kernel_rfl)
theorem b86(l:List (List UInt8)):FlatR (b0g l):=FlatR.map λ_=>rfl
theorem b5b{d:Bool}{H:a02}{b n:Nat}{l:List (List UInt8)}(hn:n=l.length)(hb:a01 H b=some (.row 1 (b0g l)))(h:sem L.env Mf 50 [.islice (b0g l) none] []=some (.bool false,[])) :
 a0a L.env d (sem L.env Mf) (.func (.func 50) [] []) [.slice b 0 n none] H=some (.bool false,H,List.range H.length):=by
 subst hn;refine a6u (args:=[.slice b 0 l.length none]) (args':=[.islice (b0g l) none]) (by kernel_rfl) (by kernel_rfl) rfl ?_ (v:=.bool false) (H1:=[]) h rfl rfl;have h2:=a17 (m:=0) (d:=a4h (a01 H) 0 11) (b86 l);have h4:((b0g l).drop 0).take l.length=b0g l:=by rw[List.drop_zero];exact List.take_of_length_le (by simp[b0g])
 have h5:(b0g l).length=l.length:=by simp[b0g]
 have hb0:decide (b<0)=false:=decide_eq_false (Nat.not_lt_zero b);simp+decide only[a3l,b81,a5w,hb0,a4r,hb,a95,a0g,h4,h2,h5,Nat.zero_add,Nat.le_refl,decide_true,decide_false,cond_true,cond_false]
theorem d4y(k m:Nat)(k1:1≤k)(k4:k≤4)(m1:1≤m)(m4:m≤4)(vs:List (List UInt8))(hvl:vs.length≤1000)(hvo:∀s∈vs,VecOk (sgs k m) s):sem L.env Mf 18 [.agg (a96 (sgs k m) vs)] []=some (.int .i64 0,[]):=by
 obtain⟨T,hT⟩:∃T,b1t vs=T:=⟨_,rfl⟩
 have hTr:refs T=[]:=by rw[←hT];exact a6i _
 have hTs:T.storable=true:=by rw[←hT];cases vs<;>rfl
 have hTn:∀π,ren π T=T:=λπ=>a0d π _ hTr;have hTsl:∃r,T=sl r (vs.map vcR):=by
  rw[←hT];cases vs with
  |nil=>exact⟨none,rfl⟩
  |cons v r=>exact⟨some (some (r.length+1)),rfl⟩
 obtain⟨tr,hTe⟩:=hTsl;have hsl:=a46 k m;have hgd:=c34 k4 m4;have htw:=d22 k m k1 k4 m1 m4;have hdir:∀s∈sgs k m,s.dir≤1:=by intro s hs;unfold sgs at hs;rcases List.mem_append.1 hs with h|h<;>(obtain⟨i,_,rfl⟩:=List.mem_map.1 h;simp[sgI,sgO])
 have hpr:a96 (sgs k m) vs=[.islice ((sgs k m).map Sgn.row) (some (sgs k m).length),.islice [tmR] (some 1),T]:=by unfold a96;rw[hT]
 have hvv:=λ(d:Bool) (H:a02) (s:List UInt8) (hs:s∈vs)=>c0y (d:=d) H (sgs k m) vs s (hvo s hs) (by omega);have hsv:=λ(d:Bool) (H:a02) (s:Sgn) (hs:s∈sgs k m)=>c17 (d:=d) H s (hgd s hs) (hdir s hs);have htv:=λ(d:Bool) (H:a02)=>c14 (d:=d) H;have hnm:∀i g,(sgs k m)[i]?=some g→(nms k m).take (i+1)=(nms k m).take i++[g.nm]:=λi g h=>a1g (by unfold nms;rw[List.getElem?_map,h];rfl);have hnl:(nms k m).length=k+m:=by unfold nms;rw[List.length_map,hsl]
 rw[hpr]at hvv⊢;generalize nms k m=NM at htw hnm hnl;generalize sgs k m=G at hsl hsv hnm hpr hvv;have hgl:(G.map Sgn.row).length=k+m:=by rw[List.length_map,hsl]
 have hPf:∀π:Nat→Option Nat,a0f π (.row 3 [[.islice (G.map Sgn.row) (some G.length),.islice [tmR] (some 1),T]]) = .row 3 [[.islice (G.map Sgn.row) (some G.length),.islice [tmR] (some 1),T]]:=λπ=>by simp+decide only[go_sem,hTn]
 rw[hsl];rw[hsl]at hvv hPf;have c1:¬(256:Int)<(k+m:Nat):=by omega
 have c2:¬(65536:Int)<vs.length:=by omega
 have htl:∀(h:FHeap),True:=λ_=>trivial;subst hTe;simp only[tmR]at htv⊢
 (refine sv Tryz.f18 ?_;simp only[Tryz.f18,gS])
 (repeat first|simp only[ww]|(apply xa;simp+decide only[go_sem,c1,c2,hgl,hTs,List.length_map];rfl;kernel_rfl))
 refine a0p (σ:=Nat) kp18_0 (λi=>[(1,.ptr 0 0 0),(3,grV 1 (b0g (NM.take i))),(4,.nilslice),(29,.islice (G.map Sgn.row) (some (k+m))),(30,.int .i64 (k+m:Nat)),(31,.int .i64 i)])
  (λi=>some (.row 3 [[.islice (G.map Sgn.row) (some (k+m)),.islice [[.str [116],.int .i64 100,.int .i64 0,.int .i64 30,.int .i64 60,.int .i64 90]] (some 1),sl tr (vs.map vcR)]])::grH 1 (b0g (NM.take i))) (λi=>k+m-i) (λi=>i≤k+m) 0 ?_ (Nat.zero_le _) ?_
 ·rw[List.take_zero]
  (simp+decide only[go_sem,a03,a00,b0g,List.map_nil,a0t,a0u,hgl,List.length_map]<;>rfl)<;>rfl
 ·intro i hi;by_cases hlt:i<k+m
  ·obtain⟨g,hg⟩:∃g,G[i]?=some g:=⟨_,z9e (by omega)⟩
   have d1:(i:Int)<(k+m:Nat):=by omega
   have hwi:=wI1 (n:=i) (by omega);have hgr:g.row=[.str g.nm,.int .u8 g.dir]:=rfl;have hs1:=λ(d:Bool) (H:a02)=>hsv d H g (List.mem_of_getElem? hg);rw[hgr]at hs1;have hgi:i<G.length:=by omega
   have hns:=hnm i g hg;have hnil:(NM.take i).length=i:=by rw[List.length_take];omega
   cases hw0:NM.take i with
   |nil=>
    (repeat first|simp only[ww]|(apply xa;simp+decide only[go_sem,d1,hlt,hgi,hg,hgr,hs1,hwi,hgl,b0g,List.map_nil,a0t,a0u,List.length_map];rfl;kernel_rfl))
    refine a27 (i+1) ?_ (by omega) (by omega);rw[hns,hw0]
    (simp+decide only[go_sem,a03,a00,b0g,List.nil_append,List.map_cons,List.map_nil,a0b,a0c,List.length_nil,hgl,List.length_map]<;>rfl)<;>rfl
   |cons v r=>
    rw[hw0]at hnil;have hrm:r.length+1+1≤1000000000:=by simp only[List.length_cons]at hnil;omega
    have hf2:=b86 r;have h3:=a08 hf2;have h4:=λπ=>a06 π hf2;unfold b0g at h3 h4
    (repeat first|simp only[ww]|(apply xa;simp+decide only[go_sem,d1,hlt,hgi,hg,hgr,hs1,hwi,hgl,b0g,List.map_cons,a0b,a0c,hrm,List.length_map];rfl;kernel_rfl))
    refine a27 (i+1) ?_ (by omega) (by omega);rw[hns,hw0]
    (simp+decide only[go_sem,a03,a00,b0g,List.cons_append,List.map_cons,List.map_append,List.map_nil,a0b,a0c,List.length_append,List.length_cons,List.length_nil,List.length_map,h3,h4,List.append_nil,hgl]<;>rfl)<;>rfl
  ·obtain rfl:i=k+m:=by omega
   have d1:¬((k+m:Nat):Int)<(k+m:Nat):=by omega
   rw[List.take_of_length_le (by omega)];have hne:b0g NM≠[]:=by intro e;have:=congrArg List.length e;simp[b0g]at this;rw[this]at hnl;simp at hnl;omega
   have hsn:(b0g NM).length=k+m:=by simp[b0g,hnl]
   rw[a7i 1 hne,a7j 1 hne,hsn];have hfN:=b86 NM;have h1:=a08 hfN;have h2:=λπ=>a06 π hfN;have htw1:=λ(d:Bool) (X:Option AObj) (R:a02)=>b5b (d:=d) (H:=X::some (.row 1 (b0g NM))::R) (b:=1) hnl.symm rfl htw;have htw2:=λ(d:Bool) (X Y:Option AObj) (R:a02)=>b5b (d:=d) (H:=X::Y::some (.row 1 (b0g [[116]]))::R) (b:=2) (n:=1) rfl rfl d76;simp only[b0g,List.map_cons,List.map_nil]at htw2;generalize b0g NM=SN at h1 h2 htw1
   (repeat first|simp only[ww]|(apply xa;simp+decide only[go_sem,d1,hTs,List.length_map];rfl;kernel_rfl))
   refine a0p (σ:=Nat) kp18_2 (λi=>match i with|0=>[(1,.ptr 0 0 0),(3,.slice 1 0 (k+m) none),(4,.nilslice),(45,.islice [[.str [116],.int .i64 100,.int .i64 0,.int .i64 30,.int .i64 60,.int .i64 90]] (some 1)),(46,.int .i64 1),(47,.int .i64 0)]|_=>[(1,.ptr 0 0 0),(3,.slice 1 0 (k+m) none),(4,.slice 2 0 1 none),(45,.islice [[.str [116],.int .i64 100,.int .i64 0,.int .i64 30,.int .i64 60,.int .i64 90]] (some 1)),(46,.int .i64 1),(47,.int .i64 1)])
    (λi=>match i with|0=>[some (.row 3 [[.islice (G.map Sgn.row) (some (k+m)),.islice [[.str [116],.int .i64 100,.int .i64 0,.int .i64 30,.int .i64 60,.int .i64 90]] (some 1),sl tr (vs.map vcR)]]),some (.row 1 SN)]|_=>[some (.row 3 [[.islice (G.map Sgn.row) (some (k+m)),.islice [[.str [116],.int .i64 100,.int .i64 0,.int .i64 30,.int .i64 60,.int .i64 90]] (some 1),sl tr (vs.map vcR)]]),some (.row 1 SN),some (.row 1 [[.str [116]]])]) (λi=>1-i) (λi=>i≤1) 0 ?_ (Nat.zero_le _) ?_
   ·(simp+decide only[go_sem,a03,a00,h1,h2,List.length_map]<;>rfl)<;>rfl
   ·intro i hi
    match i,hi with
    |0,_=>
     (repeat first|simp only[ww]|(apply xa;simp+decide only[go_sem,htv,List.length_map];rfl;kernel_rfl))
     refine a27 1 ?_ (by omega) (by omega)
     (simp+decide only[go_sem,a03,a00,h1,h2,List.length_map]<;>rfl)<;>rfl
    |1,_=>
     (repeat first|simp only[ww]|(apply xa;simp+decide only[go_sem,hTs,List.length_map];rfl;kernel_rfl))
     refine a0p (σ:=Nat) kp18_4 (λi=>[(1,.ptr 0 0 0),(3,.slice 1 0 (k+m) none),(4,.slice 2 0 1 none),(9,.int .i64 i),(61,sl tr (vs.map vcR)),(62,.int .i64 vs.length),(63,.int .i64 i)])
      (λi=>[some (.row 3 [[.islice (G.map Sgn.row) (some (k+m)),.islice [[.str [116],.int .i64 100,.int .i64 0,.int .i64 30,.int .i64 60,.int .i64 90]] (some 1),sl tr (vs.map vcR)]]),some (.row 1 SN),some (.row 1 [[.str [116]]])]) (λi=>vs.length-i) (λi=>i≤vs.length) 0 ?_ (Nat.zero_le _) ?_
     ·(simp+decide only[go_sem,a03,a00,h1,h2,List.length_map]<;>rfl)<;>rfl
     ·intro i hi;by_cases hlt:i<vs.length
      ·obtain⟨s,hs⟩:∃s,vs[i]?=some s:=⟨_,z9e hlt⟩
       have d1:(i:Int)<vs.length:=by omega
       have hwi:=wI1 (n:=i) (by omega);have hsr:vcR s=[.int .i64 0,.str s,.int .i64 1]:=rfl;have hv1:=λ(d:Bool) (H:a02)=>hvv d H s (List.mem_of_getElem? hs);simp only[hsr,tmR]at hv1;have hmn:¬(1000001:Int)<(i+1:Nat):=by omega
       (repeat first|simp only[ww]|(apply xa;simp+decide only[go_sem,d1,hlt,hs,hsr,hv1,hwi,hmn,if_false,hTs,List.length_map];rfl;kernel_rfl))
       refine a27 (i+1) ?_ (by omega) (by omega)
       (simp+decide only[go_sem,a03,a00,h1,h2,List.length_map]<;>rfl)<;>rfl
      ·obtain rfl:i=vs.length:=by omega
       have d1:¬(vs.length:Int)<vs.length:=by omega
       have d2:¬(1000000:Int)<vs.length:=by omega
       (repeat first|simp only[ww]|(apply xa;simp+decide only[go_sem,d1,htw1,htw2,d2];rfl;kernel_rfl))
       (apply fqb;simp+decide only[go_sem]<;>rfl)
section
variable {k m:Nat}(k1:1≤k)(k4:k≤4)(m1:1≤m)(m4:m≤4){vs:List (List UInt8)}(hvl:vs.length≤1000)(hvo:∀s∈vs,VecOk (sgs k m) s)
include k1 k4 m1 m4 hvl hvo
theorem c6c{d:Bool}(H:a02):a0a L.env d (sem L.env Mf) (.func (.func 18) [] []) [.agg (a96 (sgs k m) vs)] H=some (.int .i64 0,H,[]):=a04 (by kernel_rfl) (by kernel_rfl) rfl (by simp only[List.nil_append,List.append_nil,a07,a0s,a5s,a12]) (d4y k m k1 k4 m1 m4 vs hvl hvo) rfl
theorem d0o:sem L.env Mf 65 [.agg (a96 (sgs k m) vs)] []=some (.tuple [.int .i64 vs.length,.int .i64 0],[]):=by
 have hck:=λ(d:Bool) (H:a02)=>c6c (d:=d) k1 k4 m1 m4 hvl hvo H;obtain⟨T,hT⟩:∃T,b1t vs=T:=⟨_,rfl⟩
 have hTsl:∃r,T=sl r (vs.map vcR):=by
  rw[←hT];cases vs with
  |nil=>exact⟨none,rfl⟩
  |cons v r=>exact⟨some (some (r.length+1)),rfl⟩
 obtain⟨tr,hTe⟩:=hTsl;have hpr:a96 (sgs k m) vs=[.islice ((sgs k m).map Sgn.row) (some (sgs k m).length),.islice [tmR] (some 1),sl tr (vs.map vcR)]:=by unfold a96;rw[hT,hTe]
 rw[hpr]at hck⊢;simp only[tmR]at hck⊢;generalize(sgs k m).map Sgn.row=G at hck⊢
 (refine sv Tryz.f65 ?_;simp only[Tryz.f65,gS])
 (repeat first|simp only[ww]|(apply xa;simp+decide only[go_sem,hck,List.length_map];rfl;kernel_rfl))
 refine a0p (σ:=Nat) kp65_0 (λi=>[(5,.int .i64 i),(14,sl tr (vs.map vcR)),(15,.int .i64 vs.length),(16,.int .i64 i)]) (λi=>[]) (λi=>vs.length-i) (λi=>i≤vs.length) 0 ?_ (Nat.zero_le _) ?_
 ·(simp+decide only[go_sem,a03,a00,List.length_map]<;>rfl)<;>rfl
 ·intro i hi;by_cases hlt:i<vs.length
  ·obtain⟨s,hs⟩:∃s,vs[i]?=some s:=⟨_,z9e hlt⟩
   have d1:(i:Int)<vs.length:=by omega
   have hwi:=wI1 (n:=i) (by omega);have hsr:vcR s=[.int .i64 0,.str s,.int .i64 1]:=rfl
   (repeat first|simp only[ww]|(apply xa;simp+decide only[go_sem,d1,hlt,hs,hsr,hwi,List.length_map];rfl;kernel_rfl))
   refine a27 (i+1) ?_ (by omega) (by omega)
   (simp+decide only[go_sem,a03,a00]<;>rfl)<;>rfl
  ·obtain rfl:i=vs.length:=by omega
   have d1:¬(vs.length:Int)<vs.length:=by omega
   (repeat first|simp only[ww]|(apply xa;simp+decide only[go_sem,d1];rfl;kernel_rfl))
   (apply fqb;simp+decide only[go_sem]<;>rfl)
theorem b46{d:Bool}(H:a02):a0a L.env d (sem L.env Mf) (.func (.func 65) [] []) [.agg (a96 (sgs k m) vs)] H=some (.tuple [.int .i64 vs.length,.int .i64 0],H,[]):=a04 (by kernel_rfl) (by kernel_rfl) rfl (by simp only[List.nil_append,List.append_nil,a07,a0s,a5s,a12]) (d0o k1 k4 m1 m4 hvl hvo) rfl
theorem d99:sem L.env Mf 67 [.agg (a96 (sgs k m) vs),.int .i64 vs.length] []=some (.tuple [.islice (vs.map vcR) (some vs.length),.int .i64 0],[]):=by
 have hcy:=λ(d:Bool) (H:a02)=>b46 (d:=d) k1 k4 m1 m4 hvl hvo H;obtain⟨T,hT⟩:∃T,b1t vs=T:=⟨_,rfl⟩
 have hTsl:∃r,T=sl r (vs.map vcR):=by
  rw[←hT];cases vs with
  |nil=>exact⟨none,rfl⟩
  |cons v r=>exact⟨some (some (r.length+1)),rfl⟩
 obtain⟨tr,hTe⟩:=hTsl;have hpr:a96 (sgs k m) vs=[.islice ((sgs k m).map Sgn.row) (some (sgs k m).length),.islice [tmR] (some 1),sl tr (vs.map vcR)]:=by unfold a96;rw[hT,hTe]
 rw[hpr]at hcy⊢;simp only[tmR]at hcy⊢;generalize(sgs k m).map Sgn.row=G at hcy⊢;have c1:¬(vs.length:Int)<vs.length:=by omega
 have hmk:c8r L.env 64 0 (vs.length:Int)=true:=by have h1:=a8p (E:=L.env) (e:=64) (m:=vs.length) (by omega) (by decide+kernel);unfold c8r at h1⊢;simp only[Bool.and_eq_true,decide_eq_true_eq]at h1⊢;exact⟨⟨⟨Int.le_refl 0,h1.1.1.1⟩,h1.1.2⟩,h1.2⟩
 obtain⟨f,hf⟩:∃f:Nat→List AV,f=λj=>vcR (vs.getD j []):=⟨_,rfl⟩
 have hff:∀j,a0e (f j)=[]:=λj=>by rw[hf];rfl
 obtain⟨z,hz⟩:∃z,[AV.int .i64 0,.str [],.int .i64 0]=z:=⟨_,rfl⟩
 have hzr:a0e z=[]:=by rw[←hz];rfl
 (refine sv Tryz.f67 ?_;simp only[Tryz.f67,gS])
 (repeat first|simp only[ww]|(apply xa;simp+decide only[go_sem,hcy,c1,hmk,List.length_map];rfl;kernel_rfl))
 rw[hz];refine a0p (σ:=Nat) kp67_1 (λi=>[(8,.slice 0 0 i (some vs.length)),(27,sl tr (vs.map vcR)),(28,.int .i64 vs.length),(29,.int .i64 i)]) (λi=>[some (.row 3 (upT f z vs.length i))]) (λi=>vs.length-i) (λi=>i≤vs.length) 0 ?_ (Nat.zero_le _) ?_
 ·rw[←c73 (f:=f)];have h1:=a08 (a2t (f:=f) (z:=z) (n:=vs.length) (i:=0) hzr hff);have h2:=λπ=>a06 π (a2t (f:=f) (z:=z) (n:=vs.length) (i:=0) hzr hff)
  (simp+decide only[go_sem,a03,a00,h1,h2,List.length_map]<;>rfl)<;>rfl
 ·intro i hi;by_cases hlt:i<vs.length
  ·obtain⟨s,hs⟩:∃s,vs[i]?=some s:=⟨_,z9e hlt⟩
   have d1:(i:Int)<vs.length:=by omega
   have hwi:=wI1 (n:=i) (by omega);have hsr:vcR s=[.int .i64 0,.str s,.int .i64 1]:=rfl;have hfi:f i=[.int .i64 0,.str s,.int .i64 1]:=by rw[hf,←hsr];simp only[List.getD_eq_getElem?_getD,hs,Option.getD_some]
   have h0:=a08 (a2t (f:=f) (z:=z) (n:=vs.length) (i:=i) hzr hff);have h0':=λπ=>a06 π (a2t (f:=f) (z:=z) (n:=vs.length) (i:=i) hzr hff);have h1:=a08 (a2t (f:=f) (z:=z) (n:=vs.length) (i:=i+1) hzr hff);have h2:=λπ=>a06 π (a2t (f:=f) (z:=z) (n:=vs.length) (i:=i+1) hzr hff);have hset:=b2l (f:=f) (z:=z) hlt;have hln:=a6c (f:=f) (z:=z) (n:=vs.length) (i:=i);rw[hfi]at hset;have hle1:i≤vs.length:=by omega
   have hle2:i+1≤vs.length:=by omega
   have hsp:(upT f z vs.length i).take i++[[.int .i64 0,.str s,.int .i64 1]]++(upT f z vs.length i).drop (i+1)=upT f z vs.length (i+1):=by rw[←hset,List.set_eq_take_append_cons_drop,if_pos (by rw[hln];exact hlt)];simp
   (repeat first|simp only[ww]|(apply xa;simp+decide only[go_sem,d1,hlt,hs,hsr,hwi,List.length_map];rfl;kernel_rfl))
   refine a0p (σ:=Bool) kp67_3 (λq=>[(8,.slice 0 0 (bif q then i+1 else i) (some vs.length)),(10,.ptr 1 0 0),(27,sl tr (vs.map vcR)),(28,.int .i64 vs.length),(29,.int .i64 i),(34,.int .i64 1),(35,.int .i64 (bif q then 1 else 0))])
    (λq=>[some (.row 3 (upT f z vs.length (bif q then i+1 else i))),some (.row 3 [[.int .i64 0,.str s,.int .i64 1]])]) (λq=>bif q then 0 else 1) (λ_=>True) false ?_ trivial ?_
   ·(simp+decide only[go_sem,a03,a00,h0,h0',List.length_map]<;>rfl)<;>rfl
   ·intro q _;cases q with
    |false=>
     simp only[cond_false]
     (repeat first|simp only[ww]|(apply xa;simp+decide only[go_sem,hln,hle1,hle2,hsp];rfl;kernel_rfl))
     refine a27 true ?_ (by decide) trivial
     (simp+decide only[go_sem,a03,a00,h1,h2,List.length_map]<;>rfl)<;>rfl
    |true=>
     simp only[cond_true]
     (repeat first|simp only[ww]|(apply xa;simp+decide only[go_sem,hwi];rfl;kernel_rfl))
     refine a27 (i+1) ?_ (by omega) (by omega)
     (simp+decide only[go_sem,a03,a00,h1,h2]<;>rfl)<;>rfl
  ·obtain rfl:i=vs.length:=by omega
   have d1:¬(vs.length:Int)<vs.length:=by omega
   have hue:upT f z vs.length vs.length=vs.map vcR:=by rw[b6z,hf];have:=congrArg (List.map vcR) (b5o vs []);rw[List.map_map]at this;exact this
   have hul:=a6c (f:=f) (z:=z) (n:=vs.length) (i:=vs.length);rw[hue]at hul;rw[hue];have hfr:=λm d=>a17 (m:=m) (d:=d) (b85 vs);have htk:(vs.map vcR).take vs.length=vs.map vcR:=List.take_of_length_le (by omega);generalize vs.map vcR=U at hfr hul htk⊢
   (repeat first|simp only[ww]|(apply xa;simp+decide only[go_sem,d1];rfl;kernel_rfl))
   (apply fqb;simp+decide only[go_sem,hfr,hul,htk]<;>rfl)
theorem d0e{d:Bool}(H:a02):a0a L.env d (sem L.env Mf) (.func (.func 67) [] []) [.agg (a96 (sgs k m) vs),.int .i64 vs.length] H=some (.tuple [.islice (vs.map vcR) (some vs.length),.int .i64 0],H,[]):=a04 (by kernel_rfl) (by kernel_rfl) rfl (by simp only[List.nil_append,List.append_nil,a07,a0s,a5s,a12,a9s]) (d99 k1 k4 m1 m4 hvl hvo) rfl
end
def xz(v:Nat):Nat:=if v≤1 then v else 2
def xA(A:List (Rep×List Nat)):List (Rep×List Nat):=A.map λa=>(some (some a.2.length),a.2.map xz)
theorem c02(A:List (Rep×List Nat))(i:Nat):inA (xA A) i=(inA A i).map xz:=by unfold inA xA;rw[List.getD_eq_getElem?_getD,List.getD_eq_getElem?_getD,List.getElem?_map];cases A[i]?<;>rfl
theorem e1x(v:Nat):xz v≤2:=by unfold xz;split<;>omega
theorem c01{A:List (Rep×List Nat)}{i k:Nat}(h:(inA A i).length=k):(inA (xA A) i).length=k:=by rw[c02,List.length_map,h]
theorem d40(A:List (Rep×List Nat))(i:Nat):∀v∈inA (xA A) i,v≤2:=by rw[c02];intro v hv;obtain⟨w,_,rfl⟩:=List.mem_map.1 hv;exact e1x w
theorem c7s(G:List Sgn)(c1 c2:Option Nat)(hl:G.length≤1000):sem L.env Mf 66 [.islice (G.map Sgn.row) c1,.islice (G.map Sgn.row) c2] []=some (.bool true,[]):=by
 have c0:(G.length:Int)=G.length:=rfl
 (refine sv Tryz.f66 ?_;simp only[Tryz.f66,gS])
 (repeat first|simp only[ww]|(apply xa;simp+decide only[go_sem,List.length_map];rfl;kernel_rfl))
 refine a0p (σ:=Nat) kp66_0 (λi=>[(0,.islice (G.map Sgn.row) c1),(1,.islice (G.map Sgn.row) c2),(12,.int .i64 G.length),(13,.int .i64 i)]) (λi=>[]) (λi=>G.length-i) (λi=>i≤G.length) 0 ?_ (Nat.zero_le _) ?_
 ·(simp+decide only[go_sem,a03,a00]<;>rfl)<;>rfl
 ·intro i hi;by_cases hlt:i<G.length
  ·obtain⟨g,hg⟩:∃g,G[i]?=some g:=⟨_,z9e hlt⟩
   have d1:(i:Int)<G.length:=by omega
   have hwi:=wI1 (n:=i) (by omega);have hgr:g.row=[.str g.nm,.int .u8 g.dir]:=rfl
   (repeat first|simp only[ww]|(apply xa;simp+decide only[go_sem,d1,hlt,hg,hgr,hwi,List.length_map,beq_self_eq_true,Bool.and_self,Bool.not_true];rfl;kernel_rfl))
   refine a27 (i+1) ?_ (by omega) (by omega)
   (simp+decide only[go_sem,a03,a00]<;>rfl)<;>rfl
  ·obtain rfl:i=G.length:=by omega
   have d1:¬(G.length:Int)<G.length:=by omega
   (repeat first|simp only[ww]|(apply xa;simp+decide only[go_sem,d1];rfl;kernel_rfl))
   (apply fqb;simp+decide only[go_sem]<;>rfl)
theorem c1g{d:Bool}(H:a02)(G:List Sgn)(c1 c2:Option Nat)(hl:G.length≤1000):a0a L.env d (sem L.env Mf) (.func (.func 66) [] []) [.islice (G.map Sgn.row) c1,.islice (G.map Sgn.row) c2] H=some (.bool true,H,[]):=a04 (by kernel_rfl) (by kernel_rfl) rfl rfl (c7s G c1 c2 hl) rfl
theorem e23:∀v:Nat,v<4→sem L.env Mf 69 [.int .u8 (a5d 48 49 v).toNat] []=some (.int .u8 (xz v),[]):=e65 (a0o (E:=L.env) a0n 60 (by kernel_rfl)) (a0o (E:=L.env) a0n 60 (by kernel_rfl)) (a0o (E:=L.env) a0n 60 (by kernel_rfl)) (a0o (E:=L.env) a0n 60 (by kernel_rfl))
theorem c2z{d:Bool}(H:a02)(v:Nat)(hv:v≤3):a0a L.env d (sem L.env Mf) (.func (.func 69) [] []) [.int .u8 (a5d 48 49 v).toNat] H=some (.int .u8 (xz v),H,[]):=a04 (by kernel_rfl) (by kernel_rfl) rfl rfl (e23 v (by omega)) rfl
/- the machine -/
def fn1(c:Cir):AV:=.func (.func 121) [] [.iptr c.enc]
theorem b00(c:Cir):refs (fn1 c)=[]:=by have:=a3q c;simp only[fn1,refs,a0e,this,List.append_nil,List.nil_append]
theorem d2c(c:Cir)(hc:c.wf)(hO:c.outs≠[])(ord:List Nat)(hord:OrdOf c ord)(p:Pat)(hp:PatOk c.nodes p):sem L.env Mf 121 [.agg p.enc,.iptr c.enc] []=some (a9r (a14 c.outs (gN c ord p.ins p.sts)) (a1q c.nodes (gN c ord p.ins p.sts)),[]):=by
 have hr:=λ(d:Bool) (H:a02)=>a9p (d:=d) H c hc hO p hp ord hord;simp only[Cir.enc,Pat.enc]at hr⊢;unfold a9r at hr⊢;have s1:=a1d (a14 c.outs (gN c ord p.ins p.sts));have s2:=a1d (a1q c.nodes (gN c ord p.ins p.sts));have r1:=a18 (a14 c.outs (gN c ord p.ins p.sts));have r2:=a18 (a1q c.nodes (gN c ord p.ins p.sts));generalize a2p (a14 c.outs (gN c ord p.ins p.sts))=C1 at hr s1 r1⊢;generalize a2p (a1q c.nodes (gN c ord p.ins p.sts))=C2 at hr s2 r2⊢;have f1:=λm t d=>a0j m t d _ r1;have f2:=λm t d=>a0j m t d _ r2
 (refine sv Tryz.f121 ?_;simp only[Tryz.f121,gS])
 (repeat first|simp only[ww]|(apply xa;simp+decide only[go_sem,hr,s1,s2];rfl;kernel_rfl))
 (apply fqb;simp+decide only[go_sem,f1,f2]<;>rfl)
theorem c4t(c:Cir)(hc:c.wf)(hO:c.outs≠[])(ord:List Nat)(hord:OrdOf c ord)(p:Pat)(hp:PatOk c.nodes p){d:Bool}(H:a02) :
 a0a L.env d (sem L.env Mf) (fn1 c) [.agg p.enc] H=some (a9r (a14 c.outs (gN c ord p.ins p.sts)) (a1q c.nodes (gN c ord p.ins p.sts)),H,[]):=
 a04 (by kernel_rfl) (by kernel_rfl) rfl (by simp only[List.nil_append,List.append_nil,List.cons_append,a07,a0s,c84,Pat.enc,a1b,a12,a3q]) (d2c c hc hO ord hord p hp) (a5q _ _)
end Go.UInst
