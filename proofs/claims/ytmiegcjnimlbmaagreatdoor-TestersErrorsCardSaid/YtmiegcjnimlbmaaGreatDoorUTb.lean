/- Part of a proof. No condition. -/
import Derived.Test.YtmiegcjnimlbmaaGreatDoorUTa
import Derived.Test.YtmiegcjnimlbmaaGreatDoorAxD
import Derived.Test.YtmiegcjnimlbmaaGreatDoorUGa
import Derived.Test.YtmiegcjnimlbmaaGreatDoorUNe
import Derived.Test.YtmiegcjnimlbmaaGreatDoorPcB
set_option linter.unusedSectionVars false
set_option linter.unusedSimpArgs false
set_option linter.unusedVariables false
namespace Go.UInst
open Go.Proofs Go.Ax Go.Pc
variable [ZC]
set_option maxRecDepth 100000
def gN(c:Cir)(ord x st:List Nat):List Nat:=c84 nAlg c.nodes hk0 ord (kinds c.nodes 0) (kinds c.nodes 14) x st
section
variable (c:Cir)(ord:List Nat)(A:List (Rep×List Nat))
def inA(i:Nat):List Nat:=(A.getD i (none,[])).2
def stA:Nat->List Nat
 |0=>List.replicate (kinds c.nodes 14).length 2
 |i+1=>a1x c.nodes (gN c ord (inA A i) (stA i))
def ouA(i:Nat):List Nat:=a17 c.outs (gN c ord (inA A i) (stA c ord A i))
def clR:List Nat->Rep|[]=>none|_::r=>some (some (r.length+1))
def ouB:List (Rep×List Nat):=(List.range A.length).map λj=>(clR (ouA c ord A j),ouA c ord A j)
def gdC:List (List UInt8):=d3j A (ouB c ord A)
end
theorem a92(l:List Nat):a29 l=sl (clR l) (l.map u8R):=by cases l<;>rfl
theorem a5a{A:List (Rep×List Nat)}{i:Nat}{a:Rep×List Nat}(h:A[i]?=some a):inA A i=a.2:=by unfold inA;rw[f2p,h];rfl
theorem c0v{d:Bool}(H:a03)(c:Cir)(hc:c.wf)(hO:c.outs≠[])(p:Pat)(hp:PatOk c.nodes p)(ord:List Nat)(aH:OrdOf c ord) :
 cl d 23 [.agg c.enc,.agg p.enc] H=some (.tuple [a7j (a17 c.outs (gN c ord p.ins p.sts)) (a1x c.nodes (gN c ord p.ins p.sts)),.islice ((gN c ord p.ins p.sts).map u8R) (some c.nodes.length),.int .i64 0],H,[]):=
 cf (by simp only[f1e,f1b,a04,a0n,Cir.enc,Pat.enc,go_sem]) (c3h c hc hO p hp ord aH) (by simp only[a58,a04,a3c,b4b,b8z,a0t,f1b])
theorem b06{d:Bool}(H:a03)(c:Cir)(hc:c.wf):cl d 22 [.agg c.enc] H=some (.agg (b19 c).enc,H,[]):=cf (by simp only[f1e,f1b];exact a4t c) (d05 c hc) (by simp only[a0n,Pat.enc,a04,a16,a0t,f1b])
theorem d1o(nodes:List Nd)(N:List Nat):(a1x nodes N).length=(kinds nodes 14).length:=by simp[a1x]
theorem c5i(nodes:List Nd)(N:List Nat):∀v∈a1x nodes N,v<=2:=by intro v hv;obtain⟨n,_,rfl⟩:=f6q.1 hv;unfold a5u;omega
theorem e0f(c:Cir)(ord:List Nat)(A:List (Rep×List Nat)):∀i,(stA c ord A i).length=(kinds c.nodes 14).length
 |0=>by simp[stA]
 |i+1=>d1o _ _
theorem d90(c:Cir)(ord:List Nat)(A:List (Rep×List Nat)):∀i,∀v∈stA c ord A i,v<=2
 |0=>λv hv=>by rw[f4t hv];omega
 |i+1=>c5i _ _
theorem a79(outs N:List Nat):(a17 outs N).length=outs.length:=by simp[a17]
theorem d1c(c:Cir)(ord:List Nat)(A:List (Rep×List Nat)){i:Nat}(hi:∀v∈inA A i,v<=3):∀v∈ouA c ord A i,v<=3:=by intro v hv;obtain⟨n,_,rfl⟩:=f6q.1 hv;exact b0z (b3d d9g _ _ _ _ _ hi (λv hv=>by have:=d90 c ord A i v hv;omega)) n
theorem c3u(c:Cir)(ord:List Nat)(A:List (Rep×List Nat)):(ouB c ord A).length=A.length:=by simp[ouB]
theorem d1b(c:Cir)(ord:List Nat)(A:List (Rep×List Nat)){j:Nat}(h:j<A.length):(ouB c ord A)[j]?=some (clR (ouA c ord A j),ouA c ord A j):=by unfold ouB;rw[f1l,f6v h];rfl
def stR(c:Cir)(ord:List Nat)(A:List (Rep×List Nat)):Nat->Rep
 |0=>some (some (kinds c.nodes 14).length)
 |i+1=>clR (stA c ord A (i+1))
theorem b26(l:List Nat):(a29 l).cells=[a29 l]:=by cases l<;>rfl
theorem c4k(l:List Nat):(a29 l).isJunk=false:=by cases l<;>rfl
def zfo(n m i:Nat):List (List (List AV)):=(List.range n).map λj=>if j<i then List.replicate m [.int .u8 0]else[]
theorem b3q(n m i:Nat):(zfo n m i).length=n:=by simp[zfo]
theorem b3r{n m i j:Nat}(h:j<n):(zfo n m i)[j]?=some (if j<i then List.replicate m [.int .u8 0]else[]):=by unfold zfo;rw[f1l,f6v h];rfl
theorem d9x{n m i:Nat}(h:i<n):(zfo n m i).set i (List.replicate m [.int .u8 0])=zfo n m (i+1):=by
 apply f4x;intro j;rw[f3a,b3q];by_cases hj:j<n
 ·rw[b3r hj,b3r hj];by_cases e:i=j
  ·subst e;rw[f2w rfl,f2w hj,f2w (by omega)]
  ·rw[f2m e];by_cases h2:j<i
   ·rw[f2w h2,f2w (by omega)]
   ·rw[f2m h2,f2m (by omega)]
 ·have e:∀i,(zfo n m i)[j]?=none:=λi=>f2s (by rw[b3q];omega);rw[e,e,f2m (by omega)]
theorem d52(H:a03)(b n m:Nat)(h:a02 H b=some (.row 1 (List.replicate n [.nilslice]))):Two H b 1 (λ_=>0) (λ_=>some m) (zfo n m 0):=by
 have hz:zfo n m 0=List.replicate n []:=by unfold zfo;rw[show(λj:Nat=>if j<0 then List.replicate m [AV.int .u8 0]else[])=λ_=>[]from by funext j;rw[f2m (f8l j)],List.map_const',f3b]
 rw[hz];have cR:∀(j:Nat) (f:List (List AV)),(List.replicate n ([]:List (List AV)))[j]?=some f->f=[]:=by
  intro j f hf;rw[f4w]at hf;split at hf
  ·cases hf;rfl
  ·cases hf
 refine⟨?_,λj f hf aw=>absurd (cR j f hf) aw,λi j f g hf _ aw=>absurd (cR i f hf) aw,λf hf=>by rw[f4t hf];exact FlatR.nil⟩;rw[h]
 congr 2
 unfold a3j;apply f4x;intro j;rw[f4n,f4w,f4w];split<;>rfl
theorem d9y(n m:Nat)(hm:0<m):(zfo n m n).mapIdx (λj f=>[slF (some m) f])=List.replicate n [.islice (List.replicate m [.int .u8 0]) (some m)]:=by
 apply f4x;intro j;rw[f4n,f4w];by_cases h:j<n
 ·rw[b3r h,f2w h,f2w h];obtain⟨q,rfl⟩:∃q,m=q+1:=⟨m-1,by omega⟩
  rfl
 ·rw[f2s (by rw[b3q];omega),f2m h];rfl
set_option maxHeartbeats 200000000
def a9w(b:Nat):List (List UInt8)->AV|[]=>.nilslice|_::r=>.slice b 0 (r.length+1) (some (r.length+1))
def c9u(V:List (List UInt8)):a03:=match V with|[]=>[]|v::r=>[some (.row 3 ((v::r).map vcR))]
def c7v(b:Nat)(sg:List Sgn)(V:List (List UInt8)):List AV:=[.islice (sg.map Sgn.row) (some sg.length),.slice b 0 1 (some 1),a9w (b+1) V]
theorem c92(c:Cir)(hc:c.wf){k m:Nat}(ht:Tio c k m)(ra rb:Rep)(A B:List (Rep×List Nat))(gp:A.length<=1000)(lZ:A.length=B.length)(hA:∀a∈A,a.2.length=k∧∀v∈a.2,v<=3)(hB:∀a∈B,a.2.length=m∧∀v∈a.2,v<=3) :
 ∃r:AV×a03,(∃X0 X1:Option AObj,r=(.tuple [.agg (c7v 2 (sgs k m) (d3j A B)),.int .i64 0],[X0,X1,some (.row 6 [tmR])]++c9u (d3j A B)))∧sM 17 [.agg c.enc,sl ra (A.map vlR),sl rb (B.map vlR)] []=some r:=by
 have gb:=λ(d:Bool) (H:a03)=>a3l (d:=d) H c hc ht;have jG:=λ(d:Bool) (H:a03)=>b6v (d:=d) (H:=H) c hc ht (ra:=ra) (rb:=rb) gp lZ hA hB (a0i _ _ _ _ (a16 _ _)) (a0i _ _ _ _ (a16 _ _));have cM:=λ(d:Bool) (H:a03) (r:Rep) (vs:List Nat) (h:vs.length<1000000)=>b89 (d:=d) H r vs 48 49 48 49 rfl rfl h;have sj:=λ(d:Bool) (H:a03) (r:Rep) (vs:List Nat) (h:vs.length<1000000)=>b89 (d:=d) H r vs 76 72 76 72 rfl rfl h;obtain⟨t1,t2,t3,t4,t5,t6⟩:=ht;have wb:B.length=A.length:=lZ.symm;have gj:=b9v lZ;have bR:=λi a b h1 h2=>b9w (A:=A) (B:=B) (i:=i) (a:=a) (b:=b) h1 h2;generalize d3j A B=V at gj bR;have cY:=a30 k m;obtain⟨S,hS⟩:∃S,AV.islice ((sgs k m).map Sgn.row) (some (k+m))=S:=⟨_,rfl⟩
 rw[hS]at gb;have iW:refs S=[]:=by rw[<-hS];rfl
 have gC:S.storable=true:=by rw[<-hS];rfl
 have iY:S.cells=[S]:=by rw[<-hS];rfl
 have iX:S.isJunk=false:=by rw[<-hS];rfl
 have oA:∀π,ren π S=S:=λπ=>a0b π _ iW;have vt:∀m t d,a36 m t d S=some S:=λm t d=>a0i m t d _ iW;unfold c7v;rw[cY,hS];simp only[Cir.enc]at gb jG⊢
 (refine svE Tryz.f17 ?_;simp only[Tryz.f17,gS])
 (repeat first|simp only[ww]|apply xa;simp+decide only[go_sem,gb,jG,gC,iX,iY];rfl;kernel_rfl)
 refine a0m (σ:=Nat) kp17_0 (λi=>[(1,sl ra (A.map vlR)),(2,sl rb (B.map vlR)),(6,.ptr 0 0 0),(10,.ptr 1 0 0),(34,.int .i64 A.length),(35,.int .i64 i)])
  (λi=>[some (.row 3 [[.nilslice,.nilslice,.nilslice]]),some (.row 3 [[S,.slice 2 0 1 (some 1),grV 3 ((V.take i).map vcR)]]),some (.row 6 [tmR])]++grH 3 ((V.take i).map vcR)) (λi=>A.length-i) (λi=>i<=A.length) 0 ?_ (f2i _) ?_
 ·rw[f2j]
  (simp+decide only[go_sem,a01,a00,f1g,a0r,a0s,iW,oA,tmR]<;>rfl)<;>rfl
 ·intro i hi;by_cases ai:i<A.length
  ·have d1:(i:Int)<A.length:=by omega
   have aS:=wI1 (n:=i) (by omega);have dy:i<B.length:=by omega
   obtain⟨a,ha⟩:∃a,A[i]?=some a:=⟨_,z9e ai⟩
   obtain⟨b,hb⟩:∃b,B[i]?=some b:=⟨_,z9e dy⟩
   obtain⟨a1,a2⟩:=hA a (c11 ha);obtain⟨b1,b2⟩:=hB b (c11 hb);have mJ:vlR a=[sl a.1 (a.2.map u8R)]:=rfl;have oz:vlR b=[sl b.1 (b.2.map u8R)]:=rfl;have dc:=λ(d:Bool) (H:a03)=>cM d H a.1 a.2 (by omega);have eg:=λ(d:Bool) (H:a03)=>sj d H b.1 b.2 (by omega);have dV:V.take (i+1)=V.take i++[cyc a.2 b.2]:=a1b (bR i a b ha hb);have tO:e4n BinOp.add (a.2.map (a4o 48 49)) (b.2.map (a4o 76 72))=some (.str (cyc a.2 b.2)):=by
    have bf:(a.2.map (a4o 48 49)).length+(b.2.map (a4o 76 72)).length<=4611686018427387904:=by rw[c10,c10];omega
    simp only[e4n,f4m bf,f2v];rfl
   have dD:(V.take i).length=i:=by rw[f2z];omega
   have hf:=b0i (V.take i);cases cA:V.take i with
   |nil=>
    (repeat first|simp only[ww]|apply xa;simp+decide only[go_sem,d1,ai,dy,ha,hb,mJ,oz,dc,eg,tO,aS,gC,iX,iY,f1g,a0r,a0s,c10];rfl;kernel_rfl)
    refine a1m (i+1) ?_ (by omega) (by omega);rw[dV,cA]
    (simp+decide only[go_sem,a01,a00,f1e,f1a,f1g,a09,a0a,f1h,iW,oA,tmR,vcR]<;>rfl)<;>rfl
   |cons v r=>
    rw[cA]at dD hf;have aD:r.length+1+1<=1000000000:=by simp only[f1c]at dD;omega
    have kV:=b0i r;have h3:=a06 kV;have h4:=λπ=>a05 π kV
    (repeat first|simp only[ww]|apply xa;simp+decide only[go_sem,d1,ai,dy,ha,hb,mJ,oz,dc,eg,tO,aS,gC,iX,iY,f1a,a09,a0a,aD,c10];rfl;kernel_rfl)
    refine a1m (i+1) ?_ (by omega) (by omega);rw[dV,cA]
    (simp+decide only[go_sem,a01,a00,f2o,f1a,f2t,f1g,a09,a0a,f2n,f1c,f1h,c10,iW,oA,tmR,vcR,h3,h4,f1b]<;>rfl)<;>rfl
  ·obtain rfl:i=A.length:=by omega
   have d1:¬(A.length:Int)<A.length:=by omega
   rw[f1k (by omega)];have hn:=λ(d:Bool) (H:a03)=>c33 (d:=d) H;cases hV:V with
   |nil=>
    (repeat first|simp only[ww]|apply xa;simp+decide only[go_sem,d1,hn,gC,iX,iY,f1g,a0r,a0s,c10];rfl;kernel_rfl)
    refine a44 (vs:=[.agg [S,.slice 2 0 1 (some 1),.nilslice],.int .i64 0]) (r:=(_,_)) (by simp+decide only[go_sem,gC,iX,iY]<;>rfl) rfl ⟨_,_,rfl⟩
   |cons v r=>
    have jH:=b0i (v::r);have kX:=λ(d:Bool) (X Y Z:Option AObj)=>c76 (d:=d) (H:=[X,Y,Z,some (.row 3 ((v::r).map vcR))]) (b:=3) (n:=r.length+1) jH rfl;have jF:=λm d=>a0z (m:=m) (d:=d) jH;have gG:a9w 3 (v::r) = .slice 3 0 (r.length+1) (some (r.length+1)):=rfl;have uw:c9u (v::r)=[some (.row 3 ((v::r).map vcR))]:=rfl;have aw:(v::r).map vcR≠[]:=by simp
    have dO:((v::r).map vcR).length=r.length+1:=by simp
    have dF:((v::r).map vcR).take (r.length+1)=(v::r).map vcR:=f1k (by simp);rw[a4z 3 aw,a50 3 aw,dO,gG,uw];generalize(v::r).map vcR=R0 at kX jF dO dF
    (repeat first|simp only[ww]|apply xa;simp+decide only[go_sem,d1,kX,gC,iX,iY,c10];rfl;kernel_rfl)
    refine a44 (vs:=[.agg [S,.slice 2 0 1 (some 1),.slice 3 0 (r.length+1) (some (r.length+1))],.int .i64 0]) (r:=(_,_)) (by simp+decide only[go_sem,gC,iX,iY]<;>rfl) rfl ⟨_,_,rfl⟩
theorem c4y(V:List (List UInt8))(π:Nat->Option Nat):(c9u V).map (Option.map (a0g π))=c9u V:=by
 cases V with
 |nil=>rfl
 |cons v r=>have h:=FlatO.row (k:=3) (b0i (v::r)) π;simp only[c9u,f1a,f1g]at h⊢;rw[h]
theorem c5d(n b:Nat)(sg:List Sgn)(V:List (List UInt8)):ren (a1d [] n) (.agg (c7v b sg V)) = .agg (c7v (n+b) sg V):=by cases V<;>simp only[c7v,a9w,go_sem,d43,f1a,f1g,g0m]<;>rfl
theorem c2j{d:Bool}(H:a03)(c:Cir)(hc:c.wf){k m:Nat}(ht:Tio c k m)(ra rb:Rep)(A B:List (Rep×List Nat))(gp:A.length<=1000)(lZ:A.length=B.length)(hA:∀a∈A,a.2.length=k∧∀v∈a.2,v<=3)(hB:∀a∈B,a.2.length=m∧∀v∈a.2,v<=3) :
 ∃X0 X1:Option AObj,cl d 17 [.agg c.enc,sl ra (A.map vlR),sl rb (B.map vlR)] H=some (.tuple [.agg (c7v (H.length+2) (sgs k m) (d3j A B)),.int .i64 0],H++([X0,X1,some (.row 6 [tmR])]++c9u (d3j A B)),[]):=by
 obtain⟨r,⟨X0,X1,rfl⟩,h⟩:=c92 c hc ht ra rb A B gp lZ hA hB;have h2:=b0l (E:=L.env) (d:=d) (fs:=[]) (cs:=[]) (ar:=[.agg c.enc,sl ra (A.map vlR),sl rb (B.map vlR)]) (H:=H) (by kernel_rfl) (by kernel_rfl) rfl (by simp only[f1e,f1b,a04,a0n,a4c,a16,a0t]) h;refine⟨X0.map (a0g (a1d [] H.length)),X1.map (a0g (a1d [] H.length)),h2.trans ?_⟩;rw[f2t,c4y];simp only[c14,f1a,f1g,c5d,b8y,f2k,tmR];rfl
theorem e24(c:Cir)(hc:c.wf){k m:Nat}(ht:Tio c k m)(ord:List Nat)(aH:OrdOf c ord)(ra:Rep)(A:List (Rep×List Nat))(gp:A.length<=1000)(hA:∀a∈A,a.2.length=k∧∀v∈a.2,v<=3) :
 ∃r:AV×a03,(∃X0 X1 X2 X3:Option AObj,r=(.tuple [.agg (c7v 4 (sgs k m) (gdC c ord A)),.int .i64 0],[X0,X1,X2,X3,some (.row 6 [tmR])]++c9u (gdC c ord A)))∧sM 25 [.agg c.enc,sl ra (A.map vlR)] []=some r:=by
 have gb:=λ(d:Bool) (H:a03)=>a3l (d:=d) H c hc ht;have jG:=λ(H:a03) (W:AV) (hW:a36 0 false (a3k (a02 H) 0 12) W=some (sl (some (some A.length)) ((List.replicate A.length ((some (some m),List.replicate m 0):Rep×List Nat)).map vlR)))=>b6v (d:=false) (H:=H) c hc ht (ra:=ra) (rb:=some (some A.length)) (A:=A) (B:=List.replicate A.length (some (some m),List.replicate m 0)) gp (by simp) hA (λa ha=>by rw[f4t ha];exact⟨by simp,λv hv=>by rw[f4t hv];omega⟩) (a0i _ _ _ _ (a16 _ _)) hW;have dm:=λ(d:Bool) (H:a03)=>b06 (d:=d) H c hc;have hO:c.outs≠[]:=by intro e;have:=ht.out;have:=ht.m1;rw[e]at *;simp at *;omega
 have tl:=λ(d:Bool) (H:a03) (p:Pat) (hp:PatOk c.nodes p)=>c0v (d:=d) H c hc hO p hp ord aH;have bH:(kinds c.nodes 0).length=k:=by rw[ht.ins];simp
 have cE:∀i,(ouA c ord A i).length=m:=λi=>by unfold ouA;rw[a79,ht.out]
 have bv:=λ(H:a03)=>c2j (d:=false) H c hc ht ra (some (some A.length)) A (ouB c ord A) gp (c3u c ord A).symm hA (λa ha=>by obtain⟨j,hj,rfl⟩:=f6q.1 ha;have bg:=f7n.1 hj;refine⟨cE j,d1c c ord A (λv hv=>?_)⟩;rw[a5a (z9e bg)]at hv;exact(hA _ (g0l bg)).2 v hv);obtain⟨t1,t2,t3,t4,t5,t6⟩:=ht;have hn:=hc.len;have cY:=a30 k m;obtain⟨S,hS⟩:∃S,AV.islice ((sgs k m).map Sgn.row) (some (k+m))=S:=⟨_,rfl⟩
 rw[hS]at gb;obtain⟨V,hV⟩:∃V,a9w 5 (gdC c ord A)=V:=⟨_,rfl⟩
 have gA:V.storable=true:=by rw[<-hV];cases gdC c ord A<;>rfl
 have gB:V.cells=[V]:=by rw[<-hV];cases gdC c ord A<;>rfl
 have jA:c7v 4 (sgs k m) (gdC c ord A)=[S,.slice 4 0 1 (some 1),V]:=by unfold c7v;rw[cY,hS,hV]
 have iW:refs S=[]:=by rw[<-hS];rfl
 have gC:S.storable=true:=by rw[<-hS];rfl
 have vt:∀m t d,a36 m t d S=some S:=λm t d=>a0i m t d _ iW;have vd:gdC c ord A=d3j A (ouB c ord A):=rfl;rw[<-vd]at bv;rw[jA];simp only[Cir.enc]at gb jG dm tl bv⊢;have i4:∀π:Nat->Option Nat,a0g π (.row 4 [ce c]) = .row 4 [ce c]:=λπ=>by simp+decide only[go_sem]
 have jg:a12 (some (.row 4 [ce c]))=[]:=by simp+decide only[go_sem]
 have kH:∀π:Nat->Option Nat,a0g π (.row 3 [[.nilslice,.nilslice,.nilslice]]) = .row 3 [[.nilslice,.nilslice,.nilslice]]:=λπ=>by simp+decide only[go_sem]
 have tY:a12 (some (.row 3 [[.nilslice,.nilslice,.nilslice]]))=[]:=by simp+decide only[go_sem]
 have aD:A.length<=1000000000:=by omega
 (refine svE Tryz.f25 ?_;simp only[Tryz.f25,gS])
 (repeat first|simp only[ww]|apply xa;simp+decide only[go_sem,gb,aD,c10];rfl;kernel_rfl)
 have mD:∀(i cb pb b:Nat) (aC:Nat->Nat) (H2:a03),i<=A.length->a02 H2 cb=some (.row 4 [ce c])->a02 H2 pb=some (.row 3 [[.nilslice,.nilslice,.nilslice]])->Two H2 b 1 aC (λ_=>some m) (zfo A.length m i)->∀F1:Frm,a0d ((a2c [1,2,4,8,30,31,1000003] F1).map (·.2))=[cb,pb,b]->
  (∀π,c0h π (a2c [1,2,4,8,30,31,1000003] F1)=[(1,sl ra (A.map vlR)),(2,ren π (.ptr cb 0 0)),(4,ren π (.ptr pb 0 0)),(8,ren π (.slice b 0 A.length (some A.length))),(30,.int .i64 A.length),(31,.int .i64 (i:Nat)),(1000003,.junk)])->∃F H,gcD 0 [1,2,4,8,30,31,1000003] F1 H2=some (F,H)∧
  ∃(i':Nat) (aC:Nat->Nat),A.length-i=A.length-i'∧i'<=A.length∧F=[(1,sl ra (A.map vlR)),(2,.ptr 0 0 0),(4,.ptr 1 0 0),(8,.slice 2 0 A.length (some A.length)),(30,.int .i64 A.length),(31,.int .i64 (i':Nat)),(1000003,.junk)]∧a02 H 0=some (.row 4 [ce c])∧a02 H 1=some (.row 3 [[.nilslice,.nilslice,.nilslice]])∧Two H 2 1 aC (λ_=>some m) (zfo A.length m i'):=by
  intro i cb pb b aC H2 hi h1 h2 hT F1 qk ud;have kX:cb≠pb:=by intro e;rw[e,h2]at h1;cases h1
  obtain⟨bZ,_⟩:=hT.apart h1 (by omega) (by omega);obtain⟨eZ,_⟩:=hT.apart h2 (by omega) (by omega);obtain⟨F,H,hg,qo,oN,b',aK,e1,e2,e3,e4⟩:=hT.headX (F:=F1) (keep:=[1,2,4,8,30,31,1000003]) (P:=λF H=>∃(qo oN b':Nat) (aK:Nat->Nat),F=[(1,sl ra (A.map vlR)),(2,.ptr qo 0 0),(4,.ptr oN 0 0),(8,.slice b' 0 A.length (some A.length)),(30,.int .i64 A.length),(31,.int .i64 (i:Nat)),(1000003,.junk)]∧a02 H qo=some (.row 4 [ce c])∧a02 H oN=some (.row 3 [[.nilslice,.nilslice,.nilslice]])∧Two H b' 1 aK (λ_=>some m) (zfo A.length m i)) [cb,pb]
   (by intro x hx;simp only[f4h,g0k,or_false]at hx;rcases hx with rfl|rfl;rw[h1];exact jg;rw[h2];exact tY) (by rw[qk];simp) (by rw[qk];simp) (by rw[qk];simp) (by rw[qk];simp) (by rw[b3q];omega) (by
    intro π b' aK H1 hb eU sE;obtain⟨qo,e1,e2⟩:=sE cb (by simp);obtain⟨oN,e3,e4⟩:=sE pb (by simp);refine⟨qo,oN,b',aK,?_,?_,?_,eU⟩
    ·rw[ud];simp+decide only[go_sem,e1,e3,hb]<;>rfl
    ·rw[e2,h1];show some (a0g π _)=_;rw[i4]
    ·rw[e4,h2];show some (a0g π _)=_;rw[kH])
  obtain⟨π,f1,f2,f3,f4⟩:=d30 hg qk (by rw[h1];exact jg) (by rw[h2];exact tY) kX bZ eZ;rw[ud]at f1;have f5:F=[(1,sl ra (A.map vlR)),(2,.ptr 0 0 0),(4,.ptr 1 0 0),(8,.slice 2 0 A.length (some A.length)),(30,.int .i64 A.length),(31,.int .i64 (i:Nat)),(1000003,.junk)]:=by rw[f1];simp+decide only[go_sem,f2,f3,f4]<;>rfl
  have f6:=e1.symm.trans f5;simp only[List.cons.injEq,Prod.mk.injEq,AV.ptr.injEq,AV.slice.injEq,f9h,f8s]at f6;obtain⟨rfl,rfl,rfl⟩:=f6;exact⟨F,H,hg,i,aK,rfl,hi,e1,e2,e3,e4⟩
 refine c9t kp25_0 rfl 3 rfl (λN F H=>∃(i:Nat) (aC:Nat->Nat),N=A.length-i∧i<=A.length∧F=[(1,sl ra (A.map vlR)),(2,.ptr 0 0 0),(4,.ptr 1 0 0),(8,.slice 2 0 A.length (some A.length)),(30,.int .i64 A.length),(31,.int .i64 (i:Nat)),(1000003,.junk)]∧a02 H 0=some (.row 4 [ce c])∧a02 H 1=some (.row 3 [[.nilslice,.nilslice,.nilslice]])∧Two H 2 1 aC (λ_=>some m) (zfo A.length m i)) (A.length-0) ?_ ?_
 ·refine mD 0 0 1 2 (λ_=>0) _ (f2i _) rfl rfl (d52 _ _ _ _ rfl) _ (by simp+decide only[go_sem]<;>rfl) (λπ=>by simp+decide only[go_sem]<;>rfl)
 ·rintro N F H ⟨i,aC,rfl,hi,rfl,bZ,eZ,hT⟩
  by_cases ai:i<A.length
  ·have d1:(i:Int)<A.length:=by omega
   have aS:=wI1 (n:=i) (by omega);have cM:=a1i bZ;have bU:=a1i eZ;have nF:=a1i hT.top;have ey:=hT.top;have aM:=a6g (aC:=aC) (cp:=λ_=>some m) (b3r (n:=A.length) (m:=m) (i:=i) ai);rw[f2m (Nat.lt_irrefl i)]at aM;simp only[slV]at aM;have bT:(a3j aC (λ_=>some m) (zfo A.length m i)).length=A.length:=by rw[a3n,b3q]
   have eB:m<=1000000000:=by omega
   have la:H.length≠2:=by omega
   have vB:(2<H.length)=True:=by simpa using nF
   (repeat first|simp only[ww]|apply xa;simp+decide only[go_sem,d1,t4,ai,bZ,eZ,ey,aM,bT,eB,aS,cM,bU,nF,heapF_hi0,a3y,c0y,b08,c10,f4q,a43,a5k];rfl;kernel_rfl)
   have uq:List.replicate m [AV.int .u8 0]≠[]:=by intro e;have:=congrArg List.length e;simp at this;omega
   have uo:FlatR (List.replicate m [AV.int .u8 0]):=λr hr=>by rw[f4t hr];rfl
   have eU:Two (H.set 2 (some (.row 1 ((a3j aC (λ_=>some m) (zfo A.length m i)).set i [.slice H.length 0 m (some m)])))++[some (.row 1 (List.replicate m [.int .u8 0]))]) 2 1 (λj=>if j=i then H.length else aC j) (λ_=>some m) (zfo A.length m (i+1)):=by
    rw[<-d9x ai];refine hT.put (by rw[b3r ai,f2m (Nat.lt_irrefl i)]) uq uo (f2q _) ?_ ?_ ?_
    ·rw[a5p nF,f2w rfl,f9i]
    ·have:=b5a (H:=H) (L:=[some (AObj.row 1 (List.replicate m [AV.int .u8 0]))]) (a:=2) (o:=some (.row 1 ((a3j aC (λ_=>some m) (zfo A.length m i)).set i [.slice H.length 0 m (some m)]))) 0;rw[f8z]at this;rw[this];rfl
    ·intro j g bq hg aw;obtain⟨g1,g2⟩:=hT.sub j g hg aw;rw[a5p (a1i g1),f2m (f9l g2)]
   exact a0y (A.length-(i+1)) (by omega) (mD (i+1) 0 1 2 _ _ ai (by rw[a5p cM,f2m (by omega),bZ]) (by rw[a5p bU,f2m (by omega),eZ]) eU _ (by simp+decide only[go_sem]<;>rfl) (λπ=>by simp+decide only[go_sem]<;>rfl))
  ·obtain rfl:i=A.length:=by omega
   have d1:¬(A.length:Int)<A.length:=by omega
   (repeat first|simp only[ww]|apply xa;simp+decide only[go_sem,d1,c10];rfl;kernel_rfl)
   -- frozen
   obtain⟨sC,vj⟩:=hT.apart bZ (by omega) (by omega);obtain⟨v5,vh⟩:=hT.apart eZ (by omega) (by omega);have rP:∀j f,(zfo A.length m A.length)[j]?=some f->f≠[]->3<=aC j:=λj f h1 h2=>by have e1:=vj j f h1 h2;have e2:=vh j f h1 h2;have e3:=(hT.sub j f h1 h2).2;omega
   have jF:=hT.frzT 3 rP;rw[d9y _ _ t5]at jF;have vA:b0q 3 H=[some (.row 4 [ce c]),some (.row 3 [[.nilslice,.nilslice,.nilslice]]),some (.row 1 (List.replicate A.length [.islice (List.replicate m [.int .u8 0]) (some m)]))]:=by have oy:FlatR [ce c]:=FlatR.cons (a4c c) FlatR.nil;have bD:FlatR [[AV.nilslice,AV.nilslice,AV.nilslice]]:=FlatR.cons rfl FlatR.nil;unfold b0q;rw[c7b bZ eZ hT.top];simp only[f1a,f1g,f2k,a90,a2o oy,a2o bD,jF]
   rw[c8o];simp only[f1h,f2u,vA];simp+decide only[go_sem];obtain⟨z,hz⟩:∃z,[AV.islice (List.replicate m [AV.int .u8 0]) (some m)]=z:=⟨_,rfl⟩
   have cJ:a0d z=[]:=by rw[<-hz];rfl
   have e9:z=vlR (some (some m),List.replicate m 0):=by rw[<-hz];simp only[vlR,a5s,f8y];rfl
   rw[hz];have rT:=λ(X Y:Option AObj)=>jG [X,Y,some (.row 1 (List.replicate A.length z))] (.slice 2 0 A.length (some A.length)) (by
    have h4:((List.replicate A.length z).drop 0).take A.length=List.replicate A.length z:=by rw[f6s];exact f1k (by simp)
    have h5:=a0z (m:=0) (d:=a3k (a02 [X,Y,some (.row 1 (List.replicate A.length z))]) 0 11) (aa:=List.replicate A.length z) (λr hr=>by rw[f4t hr];exact cJ);have h6:a02 [X,Y,some (.row 1 (List.replicate A.length z))] 2=some (.row 1 (List.replicate A.length z)):=rfl;rw[a5s,f8y,<-e9];simp+decide only[a46,a3g,h6,a9g,a0j,h4,h5,f9i,f2u,f2q,f8k,g0o,f2v,f4i])
   obtain⟨f,hf⟩:∃f:Nat->List AV,f=λj=>[a29 (ouA c ord A j)]:=⟨_,rfl⟩
   have eK:∀j,a0d (f j)=[]:=λj=>by rw[hf];simp only[a04,a0w,a0t,f1b]
   have vf:(b19 c).enc=[sl (b19 c).ic ((b19 c).ins.map u8R),sl (stR c ord A 0) ((stA c ord A 0).map u8R)]:=rfl;rw[vf]at dm;obtain⟨BI,qO⟩:∃BI,sl (b19 c).ic ((b19 c).ins.map u8R)=BI:=⟨_,rfl⟩
   have nW:refs BI=[]:=by rw[<-qO];exact a16 _ _
   have oE:∀π,ren π BI=BI:=λπ=>a0b π _ nW;have ug:BI.storable=true:=by rw[<-qO];rfl
   have uh:BI.cells=[BI]:=by rw[<-qO];rfl
   rw[qO]at dm
   (repeat first|simp only[ww]|apply xa;simp+decide only[go_sem,rT,dm,ug,uh];rfl;kernel_rfl)
   refine a8h kp25_2 rfl 2 rfl (σ:=Nat) (λi=>[(1,sl ra (A.map vlR)),(2,.ptr 0 0 0),(4,.ptr 1 0 0),(8,.slice 2 0 A.length (some A.length)),(11,.ptr 3 0 0),(52,sl ra (A.map vlR)),(53,.int .i64 A.length),(54,.int .i64 i),(1000002,.junk)])
    (λi=>[some (.row 4 [ce c]),some (.row 3 [[.nilslice,.nilslice,.nilslice]]),some (.row 1 (upT f z A.length i)),some (.row 2 [[BI,sl (stR c ord A i) ((stA c ord A i).map u8R)]])]) (λi=>A.length-i) (λi=>i<=A.length) 0 ?_ (f2i _) ?_
   ·rw[<-c36 (f:=f)];have h1:=a06 (a2y (f:=f) (z:=z) (n:=A.length) (i:=0) cJ eK);have h2:=λπ=>a05 π (a2y (f:=f) (z:=z) (n:=A.length) (i:=0) cJ eK)
    (simp+decide only[go_sem,a01,a00,h1,h2,nW,oE,c10]<;>rfl)<;>rfl
   ·intro i hi;by_cases ai:i<A.length
    ·have d1:(i:Int)<A.length:=by omega
     have aS:=wI1 (n:=i) (by omega);obtain⟨a,ha⟩:∃a,A[i]?=some a:=⟨_,z9e ai⟩
     obtain⟨a1,a2⟩:=hA a (c11 ha);have mJ:vlR a=[sl a.1 (a.2.map u8R)]:=rfl;have hp:PatOk c.nodes ⟨a.1,a.2,stR c ord A i,stA c ord A i⟩:=⟨by rw[bH];exact a1,e0f c ord A i,a2,λv hv=>by have:=d90 c ord A i v hv;omega⟩
     have hr:=λ(d:Bool) (H:a03)=>tl d H _ hp;have e1:a17 c.outs (gN c ord a.2 (stA c ord A i))=ouA c ord A i:=by unfold ouA;rw[a5a ha]
     have e2:a1x c.nodes (gN c ord a.2 (stA c ord A i))=stA c ord A (i+1):=by show _=a1x c.nodes (gN c ord (inA A i) (stA c ord A i));rw[a5a ha]
     simp only[Pat.enc,e1,e2]at hr;have e3:a29 (stA c ord A (i+1))=sl (stR c ord A (i+1)) ((stA c ord A (i+1)).map u8R):=a92 _;have nv:f i=[a29 (ouA c ord A i)]:=by rw[hf]
     have aF:=b05 (f:=f) (z:=z) ai;have bO:=b6t (f:=f) (z:=z) ai;have dO:=a57 (f:=f) (z:=z) (n:=A.length) (i:=i);rw[nv]at aF;have h1:=a06 (a2y (f:=f) (z:=z) (n:=A.length) (i:=i+1) cJ eK);have h2:=λπ=>a05 π (a2y (f:=f) (z:=z) (n:=A.length) (i:=i+1) cJ eK);unfold a7j at hr;rw[e3]at hr;have c1:=a11 (ouA c ord A i);have c2:=b26 (ouA c ord A i);have c3:=c4k (ouA c ord A i);have gu:z.length=1:=by rw[<-hz];rfl
     have mS:z.drop 1=[]:=List.drop_of_length_le (by omega);generalize a29 (ouA c ord A i)=CO at hr aF c1 c2 c3;generalize(gN c ord a.2 (stA c ord A i)).map u8R=GN at hr
     (repeat first|simp only[ww]|apply xa;simp+decide only[go_sem,d1,ai,ha,mJ,aS,hr,bO,dO,aF,gu,mS,ug,uh,c1,c2,c3,c10];rfl;kernel_rfl)
     refine a1m (i+1) ?_ (by omega) (by omega)
     (simp+decide only[go_sem,a01,a00,h1,h2,nW,oE,c10]<;>rfl)<;>rfl
    ·obtain rfl:i=A.length:=by omega
     have d1:¬(A.length:Int)<A.length:=by omega
     have jj:upT f z A.length A.length=(ouB c ord A).map vlR:=by rw[b3v,hf];unfold ouB;rw[f7c];exact f4y λj _=>by rw[a92];rfl
     have iA:=a57 (f:=f) (z:=z) (n:=A.length) (i:=A.length);rw[jj]at iA;rw[jj];have l9:=e29 (ouB c ord A);simp only[a5s]at bv;obtain⟨X0,X1,bv⟩:=bv [some (.row 4 [ce c]),some (.row 3 [[.nilslice,.nilslice,.nilslice]])];have ry:c7v (([some (.row 4 [ce c]),some (.row 3 [[.nilslice,.nilslice,.nilslice]])]:a03).length+2) (sgs k m) (gdC c ord A)=[S,.slice 4 0 1 (some 1),V]:=jA;rw[ry]at bv;simp only[f2o,f1e]at bv;generalize(ouB c ord A).map vlR=U at iA l9 bv;have oy:FlatR [ce c]:=FlatR.cons (a4c c) FlatR.nil;have bD:FlatR [[AV.nilslice,AV.nilslice,AV.nilslice]]:=FlatR.cons rfl FlatR.nil;have la:∀Y:Option AObj,b0q 2 [some (.row 4 [ce c]),some (.row 3 [[.nilslice,.nilslice,.nilslice]]),some (.row 1 U),Y]=[some (.row 4 [ce c]),some (.row 3 [[.nilslice,.nilslice,.nilslice]])]:=λY=>by unfold b0q;simp only[f3c,f2j,f1a,f1g,f2k,a90,a2o oy,a2o bD]
     have dS:=λm d=>a0z (m:=m) (d:=d) l9;have dF:U.take A.length=U:=f1k (by omega)
     (repeat first|simp only[ww]|apply xa;simp+decide only[go_sem,d1];rfl;kernel_rfl)
     rw[c8o];simp only[f2u,la];simp+decide only[go_sem,dS,dF,iA]
     (repeat first|simp only[ww]|apply xa;simp+decide only[go_sem,bv,gC,gA,gB];rfl;kernel_rfl)
     refine a44 (vs:=[.agg [S,.slice 4 0 1 (some 1),V],.int .i64 0]) (r:=(_,_)) (by simp+decide only[go_sem,gC,gA,gB]<;>rfl) rfl ⟨_,_,_,_,rfl⟩
theorem d2x(c:Cir)(hc:c.wf){k m:Nat}(ht:Tio c k m)(ord:List Nat)(aH:OrdOf c ord)(ra:Rep)(A:List (Rep×List Nat))(gp:A.length<=1000)(hA:∀a∈A,a.2.length=k∧∀v∈a.2,v<=3) :
 ∃X0 X1 X2 X3:Option AObj,∀(d:Bool) (H:a03),cl d 25 [.agg c.enc,sl ra (A.map vlR)] H=some (.tuple [.agg (c7v (H.length+4) (sgs k m) (gdC c ord A)),.int .i64 0],H++([X0.map (a0g (a1d [] H.length)),X1.map (a0g (a1d [] H.length)),X2.map (a0g (a1d [] H.length)),X3.map (a0g (a1d [] H.length)),some (.row 6 [tmR])]++c9u (gdC c ord A)),[]):=by
 obtain⟨r,⟨X0,X1,X2,X3,rfl⟩,h⟩:=e24 c hc ht ord aH ra A gp hA;refine⟨X0,X1,X2,X3,λd H=>?_⟩;have h2:=b0l (E:=L.env) (d:=d) (fs:=[]) (cs:=[]) (ar:=[.agg c.enc,sl ra (A.map vlR)]) (H:=H) (by kernel_rfl) (by kernel_rfl) rfl (by simp only[f1e,f1b,a04,a0n,a4c,a16,a0t]) h;refine h2.trans ?_;rw[f2t,c4y];simp only[c14,f1a,f1g,c5d,b8y,f2k,tmR];rfl
theorem d08(s:Sgn)(h:c0f s.nm)(hd:s.dir<=1):sM 47 [.agg s.row] []=some (.bool true,[]):=by
 have hn:=λ(d:Bool) (H:a03)=>b78 (d:=d) h H;have c1:(s.dir:Int)<=1:=by omega
 simp only[Sgn.row]
 (refine sv Tryz.f47 ?_;simp only[Tryz.f47,gS])
 (repeat first|simp only[ww]|apply xa;simp+decide only[go_sem,hn,c1];rfl;kernel_rfl)
 (apply fqb;simp+decide only[go_sem]<;>rfl)
theorem c3b{d:Bool}(H:a03)(s:Sgn)(h:c0f s.nm)(hd:s.dir<=1):cl d 47 [.agg s.row] H=some (.bool true,H,[]):=cf rfl (d08 s h hd) rfl
theorem c38{d:Bool}(H:a03):cl d 48 [.agg tmR] H=some (.bool true,H,[]):=cf rfl (a0h (E:=L.env) a0q 60 (by kernel_rfl)) rfl
def d4t(dir:Nat)(b:UInt8):Prop:=(dir=0∧(b=48∨b=49∨b=88))∨(dir=1∧(b=76∨b=72∨b=88))
theorem f2a{b:UInt8}(h:b=48∨b=49∨b=88):∃n:Nat,sM 95 [.str [48,49,88,80],.int .u8 b.toNat] []=some (.int .i64 n,[]):=by
 rcases h with rfl|rfl|rfl
 ·exact⟨0,a0h (E:=L.env) a0q 60 (by kernel_rfl)⟩
 ·exact⟨1,a0h (E:=L.env) a0q 60 (by kernel_rfl)⟩
 ·exact⟨2,a0h (E:=L.env) a0q 60 (by kernel_rfl)⟩
theorem e6q{b:UInt8}(h:b=76∨b=72∨b=88):∃n:Nat,sM 95 [.str [76,72,88],.int .u8 b.toNat] []=some (.int .i64 n,[]):=by
 rcases h with rfl|rfl|rfl
 ·exact⟨0,a0h (E:=L.env) a0q 60 (by kernel_rfl)⟩
 ·exact⟨1,a0h (E:=L.env) a0q 60 (by kernel_rfl)⟩
 ·exact⟨2,a0h (E:=L.env) a0q 60 (by kernel_rfl)⟩
structure VecOk(sg:List Sgn)(s:List UInt8):Prop where
 len:s.length=sg.length
 cell:∀(i:Nat) (g:Sgn) (b:UInt8),sg[i]?=some g->s[i]?=some b->d4t g.dir b
theorem c73(sg:List Sgn)(T:AV)(iV:T.storable=true)(s:List UInt8)(hs:VecOk sg s)(hl:sg.length<=1000):sM 49 [.agg (vcR s),.agg [.islice (sg.map Sgn.row) (some sg.length),.islice [tmR] (some 1),T]] []=some (.bool true,[]):=by
 have cY:=hs.len;simp only[vcR]
 (refine sv Tryz.f49 ?_;simp only[Tryz.f49,gS])
 (repeat first|simp only[ww]|apply xa;simp+decide only[go_sem,iV,cY,c10];rfl;kernel_rfl)
 refine a0m (σ:=Nat) kp49_0 (λi=>[(2,.ptr 0 0 0),(39,.islice (sg.map Sgn.row) (some sg.length)),(40,.int .i64 sg.length),(41,.int .i64 i)])
  (λi=>[some (.row 3 [[.int .i64 0,.str s,.int .i64 1]])]) (λi=>sg.length-i) (λi=>i<=sg.length) 0 ?_ (f2i _) ?_
 ·(simp+decide only[go_sem,a01,a00,c10]<;>rfl)<;>rfl
 ·intro i hi;by_cases ai:i<sg.length
  ·obtain⟨g,hg⟩:∃g,sg[i]?=some g:=⟨_,z9e ai⟩
   obtain⟨b,hb⟩:∃b,s[i]?=some b:=⟨_,z9e (by omega)⟩
   have d1:(i:Int)<sg.length:=by omega
   have aS:=wI1 (n:=i) (by omega);have jE:g.row=[.str g.nm,.int .u8 g.dir]:=rfl;rcases hs.cell i g b hg hb with ⟨hd,hc⟩|⟨hd,hc⟩
   ·obtain⟨n,hn⟩:=f2a hc;have jD:=λ(d:Bool) (H:a03)=>a0v (E:=L.env) (ah:=d) (call:=sM) (g:=95) (fs:=[]) (cs:=[]) (ar:=[.str [48,49,88,80],.int .u8 b.toNat]) (H:=H) (by kernel_rfl) (by kernel_rfl) rfl rfl hn rfl;have e1:¬(g.dir:Int)=1:=by omega
    have e2:¬(n:Int)<0:=by omega
    (repeat first|simp only[ww]|apply xa;simp+decide only[go_sem,d1,ai,hg,jE,hb,jD,e1,e2,aS,cY,c10];rfl;kernel_rfl)
    refine a1m (i+1) ?_ (by omega) (by omega)
    (simp+decide only[go_sem,a01,a00]<;>rfl)<;>rfl
   ·obtain⟨n,hn⟩:=e6q hc;have jD:=λ(d:Bool) (H:a03)=>a0v (E:=L.env) (ah:=d) (call:=sM) (g:=95) (fs:=[]) (cs:=[]) (ar:=[.str [76,72,88],.int .u8 b.toNat]) (H:=H) (by kernel_rfl) (by kernel_rfl) rfl rfl hn rfl;have e1:(g.dir:Int)=1:=by omega
    have e2:¬(n:Int)<0:=by omega
    (repeat first|simp only[ww]|apply xa;simp+decide only[go_sem,d1,ai,hg,jE,hb,jD,e1,e2,aS,cY,c10];rfl;kernel_rfl)
    refine a1m (i+1) ?_ (by omega) (by omega)
    (simp+decide only[go_sem,a01,a00]<;>rfl)<;>rfl
  ·obtain rfl:i=sg.length:=by omega
   have d1:¬(sg.length:Int)<sg.length:=by omega
   (repeat first|simp only[ww]|apply xa;simp+decide only[go_sem,d1];rfl;kernel_rfl)
   (apply fqb;simp+decide only[go_sem]<;>rfl)
theorem c74(sg:List Sgn)(T:AV)(iV:T.storable=true)(s:List UInt8):sM 49 [.agg [.int .i64 0,.str s,.int .i64 0],.agg [.islice (sg.map Sgn.row) (some sg.length),.islice [tmR] (some 1),T]] []=some (.bool false,[]):=by
 (refine sv Tryz.f49 ?_;simp only[Tryz.f49,gS])
 (repeat first|simp only[ww]|apply xa;simp+decide only[go_sem,iV,c10];rfl;kernel_rfl)
 (apply fqb;simp+decide only[go_sem]<;>rfl)
theorem c0o{d:Bool}(H:a03)(sg:List Sgn)(T:AV)(nP:refs T=[])(iV:T.storable=true)(s:List UInt8)(hs:VecOk sg s)(hl:sg.length<=1000):cl d 49 [.agg (vcR s),.agg [.islice (sg.map Sgn.row) (some sg.length),.islice [tmR] (some 1),T]] H=some (.bool true,H,[]):=cf (by simp only[f1e,f1b,a04,a0n,nP,a0t];rfl) (c73 sg T iV s hs hl) rfl
theorem c0p{d:Bool}(H:a03)(sg:List Sgn)(T:AV)(nP:refs T=[])(iV:T.storable=true)(s:List UInt8):cl d 49 [.agg [.int .i64 0,.str s,.int .i64 0],.agg [.islice (sg.map Sgn.row) (some sg.length),.islice [tmR] (some 1),T]] H=some (.bool false,H,[]):=cf (by simp only[f1e,f1b,a04,a0n,nP,a0t];rfl) (c74 sg T iV s) rfl
/- names that differ -/
def b1i(l:List (List UInt8)):List (List AV):=l.map λs=>[.str s]
theorem e06:sM 50 [.islice (b1i [[116]]) none] []=some (.bool false,[]):=a0h (E:=L.env) a0q 60 (by kernel_rfl)
set_option maxRecDepth 1000000 in
theorem d59(k m:Nat)(k1:1<=k)(k4:k<=4)(m1:1<=m)(m4:m<=4):sM 50 [.islice (b1i (nms k m)) none] []=some (.bool false,[]):=by
 have hk:k=1∨k=2∨k=3∨k=4:=by omega
 have hm:m=1∨m=2∨m=3∨m=4:=by omega
 rcases hk with rfl|rfl|rfl|rfl<;>rcases hm with rfl|rfl|rfl|rfl<;>exact a0h (E:=L.env) a0q 60 (by kernel_rfl)
theorem b9s(l:List (List UInt8)):FlatR (b1i l):=FlatR.map λ_=>rfl
theorem b6u{d:Bool}{H:a03}{b n:Nat}{l:List (List UInt8)}(hn:n=l.length)(hb:a02 H b=some (.row 1 (b1i l)))(h:sM 50 [.islice (b1i l) none] []=some (.bool false,[])) :
 cl d 50 [.slice b 0 n none] H=some (.bool false,H,List.range H.length):=by
 subst hn;refine a69 (args:=[.slice b 0 l.length none]) (au:=[.islice (b1i l) none]) (by kernel_rfl) (by kernel_rfl) rfl ?_ (v:=.bool false) (H1:=[]) h rfl rfl;have h2:=a0z (m:=0) (d:=a3k (a02 H) 0 11) (b9s l);have h4:((b1i l).drop 0).take l.length=b1i l:=by rw[f6s];exact f1k (by simp[b1i])
 have h5:(b1i l).length=l.length:=by simp[b1i]
 have ia:decide (b<0)=false:=f6w (f8l b);simp+decide only[a3r,b9o,a46,ia,a3g,hb,a9g,a0j,h4,h2,h5,f2u,f2q,f8k,g0o,f2v,f4i]
theorem c2m(k m:Nat)(k1:1<=k)(k4:k<=4)(m1:1<=m)(m4:m<=4)(tr:Rep)(aa:List (List AV))(dD:aa.length<=1000)(mQ:Bool)(hb:mQ=true->0<aa.length)
 (hr:∀(i:Nat) (r:List AV),aa[i]?=some r->∃s,(mQ=true∧i=0∧r=[.int .i64 0,.str s,.int .i64 0])∨(r=vcR s∧VecOk (sgs k m) s∧(mQ=true->i≠0))) :
 sM 18 [.agg [.islice ((sgs k m).map Sgn.row) (some (sgs k m).length),.islice [tmR] (some 1),sl tr aa]] []=some (.int .i64 (cond mQ 1 0),[]):=by
 have cY:=a30 k m;have iM:=c52 k4 m4;have th:=d59 k m k1 k4 m1 m4;have sf:∀s∈sgs k m,s.dir<=1:=by intro s hs;unfold sgs at hs;rcases f4s.1 hs with h|h<;>(obtain⟨i,_,rfl⟩:=f6q.1 h;simp[sgI,sgO])
 have nP:refs (sl tr aa)=[]:=a16 _ _;have iV:(sl tr aa).storable=true:=by rcases tr with _|_|_<;>cases aa<;>rfl
 have vr:∀π,ren π (sl tr aa)=sl tr aa:=λπ=>a0b π _ nP;have gG:=λ(d:Bool) (H:a03) (s:List UInt8) (hs:VecOk (sgs k m) s)=>c0o (d:=d) H (sgs k m) _ nP iV s hs (by omega);have lu:=λ(d:Bool) (H:a03) (s:List UInt8)=>c0p (d:=d) H (sgs k m) _ nP iV s;have tj:=λ(d:Bool) (H:a03) (s:Sgn) (hs:s∈sgs k m)=>c3b (d:=d) H s (iM s hs) (sf s hs);have n8:=λ(d:Bool) (H:a03)=>c38 (d:=d) H;have jt:∀i g,(sgs k m)[i]?=some g->(nms k m).take (i+1)=(nms k m).take i++[g.nm]:=λi g h=>a1b (by unfold nms;rw[f1l,h];rfl);have dH:(nms k m).length=k+m:=by unfold nms;rw[c10,cY]
 generalize nms k m=NM at th jt dH;generalize sgs k m=G at cY tj jt gG lu hr⊢;have eJ:(G.map Sgn.row).length=k+m:=by rw[c10,cY]
 have jL:∀π:Nat->Option Nat,a0g π (.row 3 [[.islice (G.map Sgn.row) (some G.length),.islice [tmR] (some 1),sl tr aa]]) = .row 3 [[.islice (G.map Sgn.row) (some G.length),.islice [tmR] (some 1),sl tr aa]]:=λπ=>by simp+decide only[go_sem,vr]
 rw[cY];rw[cY]at gG lu jL;have c1:¬(256:Int)<(k+m:Nat):=by omega
 have c2:¬(65536:Int)<aa.length:=by omega
 simp only[tmR]at n8⊢
 (refine sv Tryz.f18 ?_;simp only[Tryz.f18,gS])
 (repeat first|simp only[ww]|apply xa;simp+decide only[go_sem,c1,c2,eJ,iV,c10];rfl;kernel_rfl)
 refine a0m (σ:=Nat) kp18_0 (λi=>[(1,.ptr 0 0 0),(3,grV 1 (b1i (NM.take i))),(4,.nilslice),(29,.islice (G.map Sgn.row) (some (k+m))),(30,.int .i64 (k+m:Nat)),(31,.int .i64 i)])
  (λi=>some (.row 3 [[.islice (G.map Sgn.row) (some (k+m)),.islice [[.str [116],.int .i64 100,.int .i64 0,.int .i64 30,.int .i64 60,.int .i64 90]] (some 1),sl tr aa]])::grH 1 (b1i (NM.take i))) (λi=>k+m-i) (λi=>i<=k+m) 0 ?_ (f2i _) ?_
 ·rw[f2j]
  (simp+decide only[go_sem,a01,a00,b1i,f1g,a0r,a0s,eJ,c10]<;>rfl)<;>rfl
 ·intro i hi;by_cases ai:i<k+m
  ·obtain⟨g,hg⟩:∃g,G[i]?=some g:=⟨_,z9e (by omega)⟩
   have d1:(i:Int)<(k+m:Nat):=by omega
   have aS:=wI1 (n:=i) (by omega);have jE:g.row=[.str g.nm,.int .u8 g.dir]:=rfl;have dX:=λ(d:Bool) (H:a03)=>tj d H g (c11 hg);rw[jE]at dX;have tH:i<G.length:=by omega
   have kf:=jt i g hg;have pu:(NM.take i).length=i:=by rw[f2z];omega
   cases cA:NM.take i with
   |nil=>
    (repeat first|simp only[ww]|apply xa;simp+decide only[go_sem,d1,ai,tH,hg,jE,dX,aS,eJ,b1i,f1g,a0r,a0s,c10];rfl;kernel_rfl)
    refine a1m (i+1) ?_ (by omega) (by omega);rw[kf,cA]
    (simp+decide only[go_sem,a01,a00,b1i,f1e,f1a,f1g,a09,a0a,f1h,eJ,c10]<;>rfl)<;>rfl
   |cons v r=>
    rw[cA]at pu;have aD:r.length+1+1<=1000000000:=by simp only[f1c]at pu;omega
    have kV:=b9s r;have h3:=a06 kV;have h4:=λπ=>a05 π kV;unfold b1i at h3 h4
    (repeat first|simp only[ww]|apply xa;simp+decide only[go_sem,d1,ai,tH,hg,jE,dX,aS,eJ,b1i,f1a,a09,a0a,aD,c10];rfl;kernel_rfl)
    refine a1m (i+1) ?_ (by omega) (by omega);rw[kf,cA]
    (simp+decide only[go_sem,a01,a00,b1i,f2o,f1a,f2t,f1g,a09,a0a,f2n,f1c,f1h,c10,h3,h4,f1b,eJ]<;>rfl)<;>rfl
  ·obtain rfl:i=k+m:=by omega
   have d1:¬((k+m:Nat):Int)<(k+m:Nat):=by omega
   rw[f1k (by omega)];have aw:b1i NM≠[]:=by intro e;have:=congrArg List.length e;simp[b1i]at this;rw[this]at dH;simp at dH;omega
   have uB:(b1i NM).length=k+m:=by simp[b1i,dH]
   rw[a4z 1 aw,a50 1 aw,uB];have tK:=b9s NM;have h1:=a06 tK;have h2:=λπ=>a05 π tK;have o4:=λ(d:Bool) (X:Option AObj) (R:a03)=>b6u (d:=d) (H:=X::some (.row 1 (b1i NM))::R) (b:=1) dH.symm rfl th;have o3:=λ(d:Bool) (X Y:Option AObj) (R:a03)=>b6u (d:=d) (H:=X::Y::some (.row 1 (b1i [[116]]))::R) (b:=2) (n:=1) rfl rfl e06;simp only[b1i,f1a,f1g]at o3;generalize b1i NM=SN at h1 h2 o4
   (repeat first|simp only[ww]|apply xa;simp+decide only[go_sem,d1,iV,c10];rfl;kernel_rfl)
   refine a0m (σ:=Nat) kp18_2 (λi=>match i with|0=>[(1,.ptr 0 0 0),(3,.slice 1 0 (k+m) none),(4,.nilslice),(45,.islice [[.str [116],.int .i64 100,.int .i64 0,.int .i64 30,.int .i64 60,.int .i64 90]] (some 1)),(46,.int .i64 1),(47,.int .i64 0)]|_=>[(1,.ptr 0 0 0),(3,.slice 1 0 (k+m) none),(4,.slice 2 0 1 none),(45,.islice [[.str [116],.int .i64 100,.int .i64 0,.int .i64 30,.int .i64 60,.int .i64 90]] (some 1)),(46,.int .i64 1),(47,.int .i64 1)])
    (λi=>match i with|0=>[some (.row 3 [[.islice (G.map Sgn.row) (some (k+m)),.islice [[.str [116],.int .i64 100,.int .i64 0,.int .i64 30,.int .i64 60,.int .i64 90]] (some 1),sl tr aa]]),some (.row 1 SN)]|_=>[some (.row 3 [[.islice (G.map Sgn.row) (some (k+m)),.islice [[.str [116],.int .i64 100,.int .i64 0,.int .i64 30,.int .i64 60,.int .i64 90]] (some 1),sl tr aa]]),some (.row 1 SN),some (.row 1 [[.str [116]]])]) (λi=>1-i) (λi=>i<=1) 0 ?_ (f2i _) ?_
   ·(simp+decide only[go_sem,a01,a00,h1,h2,c10]<;>rfl)<;>rfl
   ·intro i hi
    match i,hi with
    |0,_=>
     (repeat first|simp only[ww]|apply xa;simp+decide only[go_sem,n8,c10];rfl;kernel_rfl)
     refine a1m 1 ?_ (by omega) (by omega)
     (simp+decide only[go_sem,a01,a00,h1,h2,c10]<;>rfl)<;>rfl
    |1,_=>
     (repeat first|simp only[ww]|apply xa;simp+decide only[go_sem,iV,c10];rfl;kernel_rfl)
     refine a0m (σ:=Nat) kp18_4 (λi=>[(1,.ptr 0 0 0),(3,.slice 1 0 (k+m) none),(4,.slice 2 0 1 none),(9,.int .i64 i),(61,sl tr aa),(62,.int .i64 aa.length),(63,.int .i64 i)])
      (λi=>[some (.row 3 [[.islice (G.map Sgn.row) (some (k+m)),.islice [[.str [116],.int .i64 100,.int .i64 0,.int .i64 30,.int .i64 60,.int .i64 90]] (some 1),sl tr aa]]),some (.row 1 SN),some (.row 1 [[.str [116]]])]) (λi=>aa.length-i) (λi=>i<=aa.length∧(mQ=true->i=0)) 0 ?_ ⟨f2i _,λ_=>rfl⟩ ?_
     ·(simp+decide only[go_sem,a01,a00,h1,h2,c10]<;>rfl)<;>rfl
     ·rintro i ⟨hi,tQ⟩
      by_cases ai:i<aa.length
      ·obtain⟨s,hs⟩:∃s,aa[i]?=some s:=⟨_,z9e ai⟩
       have d1:(i:Int)<aa.length:=by omega
       have aS:=wI1 (n:=i) (by omega);have bW:¬(1000001:Int)<(i+1:Nat):=by omega
       obtain⟨s1,⟨rfl,rfl,rfl⟩|⟨rfl,uA,oo⟩⟩:=hr i s hs
       ·have jX:=λ(d:Bool) (H:a03)=>lu d H s1;simp only[tmR]at jX
        (repeat first|simp only[ww]|apply xa;simp+decide only[go_sem,d1,ai,hs,jX,aS,iV,c10];rfl;kernel_rfl)
        (apply fqb;simp+decide only[go_sem]<;>rfl)
       ·have eP:vcR s1=[.int .i64 0,.str s1,.int .i64 1]:=rfl;have jX:=λ(d:Bool) (H:a03)=>gG d H s1 uA;simp only[eP,tmR]at jX;have sx:mQ=true->False:=λh=>oo h (tQ h)
        (repeat first|simp only[ww]|apply xa;simp+decide only[go_sem,d1,ai,hs,eP,jX,aS,bW,f9d,iV,c10];rfl;kernel_rfl)
        refine a1m (i+1) ?_ (by omega) ⟨by omega,λh=>(sx h).elim⟩
        (simp+decide only[go_sem,a01,a00,h1,h2,c10]<;>rfl)<;>rfl
      ·obtain rfl:i=aa.length:=by omega
       have d1:¬(aa.length:Int)<aa.length:=by omega
       have d2:¬(1000000:Int)<aa.length:=by omega
       obtain rfl:mQ=false:=by cases mQ with|false=>rfl|true=>have e1:=hb rfl;have e2:=tQ rfl;omega
       (repeat first|simp only[ww]|apply xa;simp+decide only[go_sem,d1,o4,o3,d2];rfl;kernel_rfl)
       (apply fqb;simp+decide only[go_sem]<;>rfl)
theorem c6n(k m:Nat)(k1:1<=k)(k4:k<=4)(m1:1<=m)(m4:m<=4)(vs:List (List UInt8))(dD:vs.length<=1000)(dW:∀s∈vs,VecOk (sgs k m) s):sM 18 [.agg (b67 (sgs k m) vs)] []=some (.int .i64 0,[]):=by
 have h:∃r,c0q vs=sl r (vs.map vcR):=by
  cases vs with
  |nil=>exact⟨none,rfl⟩
  |cons v r=>exact⟨some (some (r.length+1)),rfl⟩
 obtain⟨tr,h⟩:=h;unfold b67;rw[h];refine c2m k m k1 k4 m1 m4 tr _ (by rw[c10];exact dD) false (λh=>by cases h) λi r hr=>?_;rw[f1l]at hr;cases hv:vs[i]? with
 |none=>rw[hv]at hr;cases hr
 |some s=>rw[hv]at hr;cases hr;exact⟨s,.inr ⟨rfl,dW s (c11 hv),λh=>by cases h⟩⟩
theorem a9r{d:Bool}{H:a03}{X:AV}{P:List AV}{e:Int}(hX:a36 0 false (a3k (a02 H) 0 12) X=some (.agg P))(h:sM 18 [.agg P] []=some (.int .i64 e,[])) :
 cl d 18 [X] H=some (.int .i64 e,H,List.range H.length):=
 a69 (args:=[X]) (by kernel_rfl) (by kernel_rfl) rfl (by rw[a3r,hX];rfl) h rfl rfl
section
variable {k m:Nat}(k1:1<=k)(k4:k<=4)(m1:1<=m)(m4:m<=4){vs:List (List UInt8)}(dD:vs.length<=1000)(dW:∀s∈vs,VecOk (sgs k m) s)
include k1 k4 m1 m4 dD dW
theorem c95{d:Bool}(H:a03):cl d 18 [.agg (b67 (sgs k m) vs)] H=some (.int .i64 0,H,List.range H.length):=a9r (a0i _ _ _ _ (by rw[a0n];exact b4f _ _)) (c6n k m k1 k4 m1 m4 vs dD dW)
theorem d3k:sM 65 [.agg (b67 (sgs k m) vs)] []=some (.tuple [.int .i64 vs.length,.int .i64 0],[]):=by
 have aR:=λ(d:Bool) (H:a03)=>c95 (d:=d) k1 k4 m1 m4 dD dW H;obtain⟨T,hT⟩:∃T,c0q vs=T:=⟨_,rfl⟩
 have nO:∃r,T=sl r (vs.map vcR):=by
  rw[<-hT];cases vs with
  |nil=>exact⟨none,rfl⟩
  |cons v r=>exact⟨some (some (r.length+1)),rfl⟩
 obtain⟨tr,sG⟩:=nO;have jA:b67 (sgs k m) vs=[.islice ((sgs k m).map Sgn.row) (some (sgs k m).length),.islice [tmR] (some 1),sl tr (vs.map vcR)]:=by unfold b67;rw[hT,sG]
 rw[jA]at aR⊢;simp only[tmR]at aR⊢;generalize(sgs k m).map Sgn.row=G at aR⊢
 (refine sv Tryz.f65 ?_;simp only[Tryz.f65,gS])
 (repeat first|simp only[ww]|apply xa;simp+decide only[go_sem,aR,c10];rfl;kernel_rfl)
 refine a0m (σ:=Nat) kp65_0 (λi=>[(5,.int .i64 i),(14,sl tr (vs.map vcR)),(15,.int .i64 vs.length),(16,.int .i64 i)]) (λi=>[]) (λi=>vs.length-i) (λi=>i<=vs.length) 0 ?_ (f2i _) ?_
 ·(simp+decide only[go_sem,a01,a00,c10]<;>rfl)<;>rfl
 ·intro i hi;by_cases ai:i<vs.length
  ·obtain⟨s,hs⟩:∃s,vs[i]?=some s:=⟨_,z9e ai⟩
   have d1:(i:Int)<vs.length:=by omega
   have aS:=wI1 (n:=i) (by omega);have eP:vcR s=[.int .i64 0,.str s,.int .i64 1]:=rfl
   (repeat first|simp only[ww]|apply xa;simp+decide only[go_sem,d1,ai,hs,eP,aS,c10];rfl;kernel_rfl)
   refine a1m (i+1) ?_ (by omega) (by omega)
   (simp+decide only[go_sem,a01,a00]<;>rfl)<;>rfl
  ·obtain rfl:i=vs.length:=by omega
   have d1:¬(vs.length:Int)<vs.length:=by omega
   (repeat first|simp only[ww]|apply xa;simp+decide only[go_sem,d1];rfl;kernel_rfl)
   (apply fqb;simp+decide only[go_sem]<;>rfl)
theorem a7v{d:Bool}(H:a03):cl d 65 [.agg (b67 (sgs k m) vs)] H=some (.tuple [.int .i64 vs.length,.int .i64 0],H,[]):=cf (by simp only[f1e,f1b,a04,a0n,b4f,a0t]) (d3k k1 k4 m1 m4 dD dW) rfl
theorem e2a:sM 67 [.agg (b67 (sgs k m) vs),.int .i64 vs.length] []=some (.tuple [.islice (vs.map vcR) (some vs.length),.int .i64 0],[]):=by
 have gj:=λ(d:Bool) (H:a03)=>a7v (d:=d) k1 k4 m1 m4 dD dW H;obtain⟨T,hT⟩:∃T,c0q vs=T:=⟨_,rfl⟩
 have nO:∃r,T=sl r (vs.map vcR):=by
  rw[<-hT];cases vs with
  |nil=>exact⟨none,rfl⟩
  |cons v r=>exact⟨some (some (r.length+1)),rfl⟩
 obtain⟨tr,sG⟩:=nO;have jA:b67 (sgs k m) vs=[.islice ((sgs k m).map Sgn.row) (some (sgs k m).length),.islice [tmR] (some 1),sl tr (vs.map vcR)]:=by unfold b67;rw[hT,sG]
 rw[jA]at gj⊢;simp only[tmR]at gj⊢;generalize(sgs k m).map Sgn.row=G at gj⊢;have c1:¬(vs.length:Int)<vs.length:=by omega
 have kT:c8a L.env 64 0 (vs.length:Int)=true:=by have h1:=a7s (E:=L.env) (e:=64) (m:=vs.length) (by omega) (of_decide_eq_true (by kernel_rfl));unfold c8a at h1⊢;simp only[f1d,f2y]at h1⊢;exact⟨⟨⟨Int.le_refl 0,h1.1.1.1⟩,h1.1.2⟩,h1.2⟩
 obtain⟨f,hf⟩:∃f:Nat->List AV,f=λj=>vcR (vs.getD j []):=⟨_,rfl⟩
 have eK:∀j,a0d (f j)=[]:=λj=>by rw[hf];rfl
 obtain⟨z,hz⟩:∃z,[AV.int .i64 0,.str [],.int .i64 0]=z:=⟨_,rfl⟩
 have cJ:a0d z=[]:=by rw[<-hz];rfl
 (refine sv Tryz.f67 ?_;simp only[Tryz.f67,gS])
 (repeat first|simp only[ww]|apply xa;simp+decide only[go_sem,gj,c1,kT,c10];rfl;kernel_rfl)
 rw[hz];refine a0m (σ:=Nat) kp67_1 (λi=>[(8,.slice 0 0 i (some vs.length)),(27,sl tr (vs.map vcR)),(28,.int .i64 vs.length),(29,.int .i64 i)]) (λi=>[some (.row 3 (upT f z vs.length i))]) (λi=>vs.length-i) (λi=>i<=vs.length) 0 ?_ (f2i _) ?_
 ·rw[<-c36 (f:=f)];have h1:=a06 (a2y (f:=f) (z:=z) (n:=vs.length) (i:=0) cJ eK);have h2:=λπ=>a05 π (a2y (f:=f) (z:=z) (n:=vs.length) (i:=0) cJ eK)
  (simp+decide only[go_sem,a01,a00,h1,h2,c10]<;>rfl)<;>rfl
 ·intro i hi;by_cases ai:i<vs.length
  ·obtain⟨s,hs⟩:∃s,vs[i]?=some s:=⟨_,z9e ai⟩
   have d1:(i:Int)<vs.length:=by omega
   have aS:=wI1 (n:=i) (by omega);have eP:vcR s=[.int .i64 0,.str s,.int .i64 1]:=rfl;have nv:f i=[.int .i64 0,.str s,.int .i64 1]:=by rw[hf,<-eP];simp only[f2p,hs,f4v]
   have h0:=a06 (a2y (f:=f) (z:=z) (n:=vs.length) (i:=i) cJ eK);have vD:=λπ=>a05 π (a2y (f:=f) (z:=z) (n:=vs.length) (i:=i) cJ eK);have h1:=a06 (a2y (f:=f) (z:=z) (n:=vs.length) (i:=i+1) cJ eK);have h2:=λπ=>a05 π (a2y (f:=f) (z:=z) (n:=vs.length) (i:=i+1) cJ eK);have aF:=b05 (f:=f) (z:=z) ai;have dO:=a57 (f:=f) (z:=z) (n:=vs.length) (i:=i);rw[nv]at aF;have cT:i<=vs.length:=by omega
   have bY:i+1<=vs.length:=by omega
   have rg:(upT f z vs.length i).take i++[[.int .i64 0,.str s,.int .i64 1]]++(upT f z vs.length i).drop (i+1)=upT f z vs.length (i+1):=by rw[<-aF,List.set_eq_take_append_cons_drop,f2w (by rw[dO];exact ai)];simp
   (repeat first|simp only[ww]|apply xa;simp+decide only[go_sem,d1,ai,hs,eP,aS,c10];rfl;kernel_rfl)
   refine a0m (σ:=Bool) kp67_3 (λq=>[(8,.slice 0 0 (bif q then i+1 else i) (some vs.length)),(10,.ptr 1 0 0),(27,sl tr (vs.map vcR)),(28,.int .i64 vs.length),(29,.int .i64 i),(34,.int .i64 1),(35,.int .i64 (bif q then 1 else 0))])
    (λq=>[some (.row 3 (upT f z vs.length (bif q then i+1 else i))),some (.row 3 [[.int .i64 0,.str s,.int .i64 1]])]) (λq=>bif q then 0 else 1) (λ_=>True) false ?_ trivial ?_
   ·(simp+decide only[go_sem,a01,a00,h0,vD,c10]<;>rfl)<;>rfl
   ·intro q _;cases q with
    |false=>
     simp only[f4i]
     (repeat first|simp only[ww]|apply xa;simp+decide only[go_sem,dO,cT,bY,rg];rfl;kernel_rfl)
     refine a1m true ?_ (by decide) trivial
     (simp+decide only[go_sem,a01,a00,h1,h2,c10]<;>rfl)<;>rfl
    |true=>
     simp only[f2v]
     (repeat first|simp only[ww]|apply xa;simp+decide only[go_sem,aS];rfl;kernel_rfl)
     refine a1m (i+1) ?_ (by omega) (by omega)
     (simp+decide only[go_sem,a01,a00,h1,h2]<;>rfl)<;>rfl
  ·obtain rfl:i=vs.length:=by omega
   have d1:¬(vs.length:Int)<vs.length:=by omega
   have jj:upT f z vs.length vs.length=vs.map vcR:=by rw[b3v,hf];have:=congrArg (List.map vcR) (b75 vs []);rw[f7c]at this;exact this
   have iA:=a57 (f:=f) (z:=z) (n:=vs.length) (i:=vs.length);rw[jj]at iA;rw[jj];have dS:=λm d=>a0z (m:=m) (d:=d) (b0i vs);have dF:(vs.map vcR).take vs.length=vs.map vcR:=f1k (by omega);generalize vs.map vcR=U at dS iA dF⊢
   (repeat first|simp only[ww]|apply xa;simp+decide only[go_sem,d1];rfl;kernel_rfl)
   (apply fqb;simp+decide only[go_sem,dS,iA,dF]<;>rfl)
theorem c28{d:Bool}(H:a03):cl d 67 [.agg (b67 (sgs k m) vs),.int .i64 vs.length] H=some (.tuple [.islice (vs.map vcR) (some vs.length),.int .i64 0],H,[]):=cf (by simp only[f1e,f1b,a04,a0n,b4f,a0t,b8z]) (e2a k1 k4 m1 m4 dD dW) rfl
end
def spR:List (List UInt8)->List (List AV)|[]=>[]|s::r=>[.int .i64 0,.str s,.int .i64 0]::r.map vcR
def e45(sg:List Sgn)(vs:List (List UInt8)):List AV:=[.islice (sg.map Sgn.row) (some sg.length),.islice [tmR] (some 1),.islice (spR vs) (some vs.length)]
section
variable {k m:Nat}(k1:1<=k)(k4:k<=4)(m1:1<=m)(m4:m<=4){vs:List (List UInt8)}(dD:vs.length<=1000)(dW:∀s∈vs,VecOk (sgs k m) s)(aw:vs≠[])
include k1 k4 m1 m4 dD dW aw
theorem c2n:sM 18 [.agg (e45 (sgs k m) vs)] []=some (.int .i64 1,[]):=by
 obtain⟨s0,r,rfl⟩:=f4g aw;refine c2m k m k1 k4 m1 m4 (some (some (r.length+1))) (spR (s0::r)) (by simpa[spR]using dD) true (λ_=>by simp[spR]) λi x hx=>?_;cases i with
 |zero=>exact⟨s0,.inl ⟨rfl,rfl,by simpa[spR]using hx.symm⟩⟩
 |succ i=>
  simp only[spR,f4r,f1l]at hx;cases hv:r[i]? with
  |none=>rw[hv]at hx;cases hx
  |some s=>rw[hv]at hx;cases hx;exact⟨s,.inr ⟨rfl,dW s (f6r _ (c11 hv)),λ_=>by omega⟩⟩
theorem c2d{d:Bool}(H:a03):cl d 65 [.agg (e45 (sgs k m) vs)] H=some (.tuple [.int .i64 0,.int .i64 1],H,[]):=by
 refine cf rfl ?_ rfl;have aR:=λ(d:Bool) (H:a03)=>a9r (d:=d) (H:=H) (a0i _ _ _ (.agg (e45 (sgs k m) vs)) rfl) (c2n k1 k4 m1 m4 dD dW aw);unfold e45 at aR⊢;generalize(sgs k m).map Sgn.row=G at aR⊢;generalize spR vs=R at aR⊢;simp only[tmR]at aR⊢
 (refine sv Tryz.f65 ?_;simp only[Tryz.f65,gS])
 (repeat first|simp only[ww]|apply xa;simp+decide only[go_sem,aR];rfl;kernel_rfl)
 (apply fqb;simp+decide only[go_sem]<;>rfl)
end
theorem e2p{v:Nat}(h:v<=3):d4t 0 (a4o 48 49 v):=by
 have:v=0∨v=1∨v=2∨v=3:=by omega
 rcases this with rfl|rfl|rfl|rfl
 ·exact .inl ⟨rfl,.inl (by decide)⟩
 ·exact .inl ⟨rfl,.inr (.inl (by decide))⟩
 ·exact .inl ⟨rfl,.inr (.inr (by decide))⟩
 ·exact .inl ⟨rfl,.inr (.inr (by decide))⟩
theorem d80{v:Nat}(h:v<=3):d4t 1 (a4o 76 72 v):=by
 have:v=0∨v=1∨v=2∨v=3:=by omega
 rcases this with rfl|rfl|rfl|rfl
 ·exact .inr ⟨rfl,.inl (by decide)⟩
 ·exact .inr ⟨rfl,.inr (.inl (by decide))⟩
 ·exact .inr ⟨rfl,.inr (.inr (by decide))⟩
 ·exact .inr ⟨rfl,.inr (.inr (by decide))⟩
theorem e02{k m:Nat}{a b:List Nat}(ha:a.length=k)(hb:b.length=m)(nJ:∀v∈a,v<=3)(qG:∀v∈b,v<=3):VecOk (sgs k m) (cyc a b):=by
 refine⟨by unfold cyc;rw[f2n,c10,c10,a30];omega,?_⟩;intro i g y hg hy;unfold sgs at hg;unfold cyc at hy;by_cases h:i<k
 ·rw[f2l (by simpa using h),f1l,f6v h]at hg;rw[f2l (by simp;omega),f1l]at hy;cases hg;obtain⟨v,hv,rfl⟩:=Option.map_eq_some_iff.1 hy;exact e2p (nJ v (c11 hv))
 ·rw[f2r (by simp;omega),f1l]at hg;rw[f2r (by simp;omega),f1l]at hy;obtain⟨j,hj,rfl⟩:=Option.map_eq_some_iff.1 hg;obtain⟨v,hv,rfl⟩:=Option.map_eq_some_iff.1 hy;exact d80 (qG v (c11 hv))
theorem e54(c:Cir){k m:Nat}(ht:Tio c k m)(ord:List Nat)(A:List (Rep×List Nat))(hA:∀a∈A,a.2.length=k∧∀v∈a.2,v<=3):∀s∈gdC c ord A,VecOk (sgs k m) s:=by
 intro s hs;obtain⟨i,hi⟩:=List.getElem?_of_mem hs;have hl:(gdC c ord A).length=A.length:=b9v (c3u c ord A).symm;have bQ:i<A.length:=by have:=(f1i.1 hi).1;omega
 obtain⟨a,ha⟩:∃a,A[i]?=some a:=⟨_,z9e bQ⟩
 have hc:(gdC c ord A)[i]?=some (cyc a.2 (ouA c ord A i)):=b9w ha (d1b c ord A bQ);rw[hc]at hi;cases hi;obtain⟨h1,h2⟩:=hA a (c11 ha);exact e02 h1 (by unfold ouA;rw[a79,ht.out]) h2 (d1c c ord A (λv hv=>by rw[a5a ha]at hv;exact h2 v hv))
theorem d2b(x:CX){i:Nat}(h:i<x.k):a0u x.nodes i=0:=by unfold a0u CX.nodes;rw[e12,f2l (by simpa using h),f4w,f2w h];rfl
theorem d2c(x:CX){i:Nat}(h:x.k<=i)(hn:i<x.n):a0u x.nodes i≠0:=by
 have hl:=CX.nodes_len x;obtain⟨nd,bn⟩:∃nd,x.nodes[i]?=some nd:=⟨_,z9e (by omega)⟩
 rw[a0x bn];have ne:=bn;unfold CX.nodes at ne;rw[e12,f2r (by simpa using h),f9i]at ne;have dN:=c11 ne;rw[f4s]at dN;rcases dN with hm|hm
 ·unfold CX.dn at hm;obtain⟨v,_,rfl⟩:=f6q.1 hm;show(14:Nat)≠0;omega
 ·obtain⟨q,hq⟩:=List.getElem?_of_mem hm;obtain⟨g,hg⟩:=c63 _ _ _ _ _ hq;have tG:=b5c x.bus g (x.base++((Go.Pc.gN x.bus x.base x.gs).take q).map Nd.kind) (by
   rw[f2n,x.base_len];have:0<x.k:=by unfold CX.k;omega
   omega)
  rw[<-hg]at tG;have:=tG.k1;omega
theorem d6z(x:CX):kinds x.nodes 0=List.range x.k:=by
 unfold kinds a40;have hl:=CX.nodes_len x;have hk:x.n=x.k+(x.n-x.k):=by unfold CX.n;omega
 rw[hl,hk,List.range_add,List.filter_append];have h1:(List.range x.k).filter (λi=>decide (a0u x.nodes i=0))=List.range x.k:=by rw[List.filter_eq_self];intro i hi;simp[d2b x (f7n.1 hi)]
 have h2:((List.range (x.n-x.k)).map (x.k + ·)).filter (λi=>decide (a0u x.nodes i=0))=[]:=by rw[List.filter_eq_nil_iff];intro i hi;obtain⟨j,hj,rfl⟩:=f6q.1 hi;have:=f7n.1 hj;simp[d2c x (i:=x.k+j) (by omega) (by omega)]
 rw[h1,h2,f1b]
theorem d8s(x:CX):Tio (a7a x).cir (a7a x).k (a7a x).outN.length:=by
 have h1:(a7a x).k=x.inn%4+1:=rfl;have h2:(a7a x).outN.length=(x.outs.take 3).length+1:=by show(CX.outN _).length=_;unfold CX.outN;simp[a7a]
 have h3:(x.outs.take 3).length<=3:=List.length_take_le _ _;exact⟨d6z _,by omega,by omega,rfl,by omega,by omega⟩
structure Ports(x:CX):Prop where
 p0:x.p0<256
 p1:x.p1<256
 p2:x.p2<256
 p3:x.p3<256
theorem e68(x:CX)(hx:x.ok)(hp:Ports x)(hm:x.mem=true):sM 10 [.agg x.enc] []=some (.agg (a2x x.cirM x.memA),[]):=by
 have h3:x.d<3:=Nat.mod_lt _ (by omega);have h:x.d=0∨x.d=1∨x.d=2:=by omega
 rcases h with h|h|h
 ·exact e1e x hx hp.1 hp.2 hp.3 hp.4 hm h
 ·exact e1d x hx hp.1 hp.2 hp.3 hp.4 hm h
 ·exact e1c x hx hp.1 hp.2 hp.3 hp.4 hm h
theorem c16(c:Cir)(mm:Mm):a0d (a2x c mm)=[]:=by simp only[go_sem,a2x,a8s]
theorem d6c{d:Bool}(H:a03)(x:CX)(hx:x.ok)(hp:Ports x)(hm:x.mem=true):cl d 10 [.agg x.enc] H=some (.agg (a2x x.cirM x.memA),H,[]):=cf (by simp only[go_sem]) (e68 x hx hp hm) (c16 _ _)
theorem c3i(c:Cir)(mm:Mm)(h:wfM c mm):sM 11 [.agg (a2x c mm)] []=some (.tuple [.nilslice,.int .i64 7],[]):=by
 have hc:=λ(d:Bool) (H:a03)=>c1h (d:=d) H c mm h;simp only[a2x,a8s]at hc⊢
 (refine sv Tryz.f11 ?_;simp only[Tryz.f11,gS])
 (repeat first|simp only[ww]|apply xa;simp+decide only[go_sem,hc];rfl;kernel_rfl)
 (apply fqb;simp+decide only[go_sem]<;>rfl)
theorem b0s{d:Bool}(H:a03)(c:Cir)(mm:Mm)(h:wfM c mm):cl d 11 [.agg (a2x c mm)] H=some (.tuple [.nilslice,.int .i64 7],H,[]):=cf (by show a0d _++a0d []=[];rw[c16];rfl) (c3i c mm h) rfl
def xz(v:Nat):Nat:=if v<=1 then v else 2
def xA(A:List (Rep×List Nat)):List (Rep×List Nat):=A.map λa=>(some (some a.2.length),a.2.map xz)
theorem b7p(A:List (Rep×List Nat))(i:Nat):inA (xA A) i=(inA A i).map xz:=by unfold inA xA;rw[f2p,f2p,f1l];cases A[i]?<;>rfl
theorem f0c(v:Nat):xz v<=2:=by unfold xz;split<;>omega
theorem b0y{A:List (Rep×List Nat)}{i k:Nat}(h:(inA A i).length=k):(inA (xA A) i).length=k:=by rw[b7p,c10,h]
theorem b9h(A:List (Rep×List Nat))(i:Nat):∀v∈inA (xA A) i,v<=2:=by rw[b7p];intro v hv;obtain⟨w,_,rfl⟩:=f6q.1 hv;exact f0c w
theorem d0s(G:List Sgn)(c1 c2:Option Nat)(hl:G.length<=1000):sM 66 [.islice (G.map Sgn.row) c1,.islice (G.map Sgn.row) c2] []=some (.bool true,[]):=by
 have c0:(G.length:Int)=G.length:=rfl
 (refine sv Tryz.f66 ?_;simp only[Tryz.f66,gS])
 (repeat first|simp only[ww]|apply xa;simp+decide only[go_sem,c10];rfl;kernel_rfl)
 refine a0m (σ:=Nat) kp66_0 (λi=>[(0,.islice (G.map Sgn.row) c1),(1,.islice (G.map Sgn.row) c2),(12,.int .i64 G.length),(13,.int .i64 i)]) (λi=>[]) (λi=>G.length-i) (λi=>i<=G.length) 0 ?_ (f2i _) ?_
 ·(simp+decide only[go_sem,a01,a00]<;>rfl)<;>rfl
 ·intro i hi;by_cases ai:i<G.length
  ·obtain⟨g,hg⟩:∃g,G[i]?=some g:=⟨_,z9e ai⟩
   have d1:(i:Int)<G.length:=by omega
   have aS:=wI1 (n:=i) (by omega);have jE:g.row=[.str g.nm,.int .u8 g.dir]:=rfl
   (repeat first|simp only[ww]|apply xa;simp+decide only[go_sem,d1,ai,hg,jE,aS,c10,beq_self_eq_true,f7h,f8t];rfl;kernel_rfl)
   refine a1m (i+1) ?_ (by omega) (by omega)
   (simp+decide only[go_sem,a01,a00]<;>rfl)<;>rfl
  ·obtain rfl:i=G.length:=by omega
   have d1:¬(G.length:Int)<G.length:=by omega
   (repeat first|simp only[ww]|apply xa;simp+decide only[go_sem,d1];rfl;kernel_rfl)
   (apply fqb;simp+decide only[go_sem]<;>rfl)
theorem b40{d:Bool}(H:a03)(G:List Sgn)(c1 c2:Option Nat)(hl:G.length<=1000):cl d 66 [.islice (G.map Sgn.row) c1,.islice (G.map Sgn.row) c2] H=some (.bool true,H,[]):=cf rfl (d0s G c1 c2 hl) rfl
theorem e55:∀v:Nat,v<4->sM 69 [.int .u8 (a4o 48 49 v).toNat] []=some (.int .u8 (xz v),[]):=e9g (a0h (E:=L.env) a0q 60 (by kernel_rfl)) (a0h (E:=L.env) a0q 60 (by kernel_rfl)) (a0h (E:=L.env) a0q 60 (by kernel_rfl)) (a0h (E:=L.env) a0q 60 (by kernel_rfl))
theorem b35{d:Bool}(H:a03)(v:Nat)(hv:v<=3):cl d 69 [.int .u8 (a4o 48 49 v).toNat] H=some (.int .u8 (xz v),H,[]):=cf rfl (e55 v (by omega)) rfl
/- the machine -/
def fn1(c:Cir):AV:=.func (.func 121) [] [.iptr c.enc]
theorem b11(c:Cir):refs (fn1 c)=[]:=by have:=a4c c;simp only[fn1,refs,a0d,this,f1b,f1e]
theorem d5m(c:Cir)(hc:c.wf)(hO:c.outs≠[])(ord:List Nat)(aH:OrdOf c ord)(p:Pat)(hp:PatOk c.nodes p):sM 121 [.agg p.enc,.iptr c.enc] []=some (a7j (a17 c.outs (gN c ord p.ins p.sts)) (a1x c.nodes (gN c ord p.ins p.sts)),[]):=by
 have hr:=λ(d:Bool) (H:a03)=>c0v (d:=d) H c hc hO p hp ord aH;simp only[Cir.enc,Pat.enc]at hr⊢;unfold a7j at hr⊢;have s1:=a11 (a17 c.outs (gN c ord p.ins p.sts));have s2:=a11 (a1x c.nodes (gN c ord p.ins p.sts));have r1:=a0w (a17 c.outs (gN c ord p.ins p.sts));have r2:=a0w (a1x c.nodes (gN c ord p.ins p.sts));generalize a29 (a17 c.outs (gN c ord p.ins p.sts))=C1 at hr s1 r1⊢;generalize a29 (a1x c.nodes (gN c ord p.ins p.sts))=C2 at hr s2 r2⊢;have f1:=λm t d=>a0i m t d _ r1;have f2:=λm t d=>a0i m t d _ r2
 (refine sv Tryz.f121 ?_;simp only[Tryz.f121,gS])
 (repeat first|simp only[ww]|apply xa;simp+decide only[go_sem,hr,s1,s2];rfl;kernel_rfl)
 (apply fqb;simp+decide only[go_sem,f1,f2]<;>rfl)
theorem c7f(c:Cir)(hc:c.wf)(hO:c.outs≠[])(ord:List Nat)(aH:OrdOf c ord)(p:Pat)(hp:PatOk c.nodes p){d:Bool}(H:a03) :
 a20 L.env d sM (fn1 c) [.agg p.enc] H=some (a7j (a17 c.outs (gN c ord p.ins p.sts)) (a1x c.nodes (gN c ord p.ins p.sts)),H,[]):=
 cf (by simp only[f1e,f1b,f2o,a04,a0n,c15,Pat.enc,a16,a0t,a4c]) (d5m c hc hO ord aH p hp) (a3c _ _)
theorem c7k{k m k' m':Nat}(h1:1<=k)(h2:k<=4)(h3:1<=m)(h4:m<=4)(g1:1<=k')(g2:k'<=4)(g3:1<=m')(g4:m'<=4)(aw:¬(k=k'∧m=m')):sM 66 [.islice ((sgs k' m').map Sgn.row) (some (k'+m')),.islice ((sgs k m).map Sgn.row) (some (k+m))] []=some (.bool false,[]):=by
 have a:k=1∨k=2∨k=3∨k=4:=by omega
 have b:m=1∨m=2∨m=3∨m=4:=by omega
 have a':k'=1∨k'=2∨k'=3∨k'=4:=by omega
 have b':m'=1∨m'=2∨m'=3∨m'=4:=by omega
 rcases a with rfl|rfl|rfl|rfl<;>rcases b with rfl|rfl|rfl|rfl<;>rcases a' with rfl|rfl|rfl|rfl<;>rcases b' with rfl|rfl|rfl|rfl<;>first|exact absurd ⟨rfl,rfl⟩ aw|exact a0h (E:=L.env) a0q 60 (by kernel_rfl)
theorem c0z{k m k' m':Nat}(h1:1<=k)(h2:k<=4)(h3:1<=m)(h4:m<=4)(g1:1<=k')(g2:k'<=4)(g3:1<=m')(g4:m'<=4)(aw:¬(k=k'∧m=m')){d:Bool}(H:a03):cl d 66 [.islice ((sgs k' m').map Sgn.row) (some (k'+m')),.islice ((sgs k m).map Sgn.row) (some (k+m))] H=some (.bool false,H,[]):=cf rfl (c7k h1 h2 h3 h4 g1 g2 g3 g4 aw) rfl
theorem e0q(c:Cir)(mm:Mm)(h:wfM c mm)(S1 V:AV)(iW:refs S1=[])(gC:S1.storable=true)(iY:S1.cells=[S1])(iX:S1.isJunk=false)(kY:refs V=[])(gA:V.storable=true)(gB:V.cells=[V])(iU:V.isJunk=false)(fr:List (List AV))(cap:Option Nat) :
 ∃r:AV×a03,(∃H1,r=(.tuple [.nilslice,.int .i64 7],H1))∧sM 26 [.agg (a2x c mm),.agg [S1,.islice [tmR] (some 1),V],.islice fr cap] []=some r:=by
 have hc:=λ(d:Bool) (H:a03)=>b0s (d:=d) H c mm h;simp only[a2x,a8s]at hc⊢
 (refine svE Tryz.f26 ?_;simp only[Tryz.f26,gS])
 (repeat first|simp only[ww]|apply xa;simp+decide only[go_sem,hc,gA,gB,iU,gC,iY,iX];rfl;kernel_rfl)
 exact a44 (vs:=[.nilslice,.int .i64 7]) (r:=(_,_)) (by simp+decide only[go_sem]<;>rfl) rfl ⟨_,rfl⟩
section
variable (c:Cir)(hc:c.wf){k m:Nat}(ht:Tio c k m)(S1 V:AV)(iW:refs S1=[])(gC:S1.storable=true)(iY:S1.cells=[S1])(iX:S1.isJunk=false)(kY:refs V=[])(gA:V.storable=true)(gB:V.cells=[V])(iU:V.isJunk=false)
include hc ht iW gC iY iX kY gA gB iU
theorem e0x(fr:List (List AV))(dS:fr.length=2)(cap:Option Nat) :
 ∃r:AV×a03,(∃H1,r=(.tuple [.nilslice,.int .i64 3],H1))∧sM 26 [.agg c.enc,.agg [S1,.islice [tmR] (some 1),V],.islice fr cap] []=some r:=by
 have gb:=λ(d:Bool) (H:a03)=>a3l (d:=d) H c hc ht;have c1:(1:Int)<(fr.length:Nat):=by omega
 simp only[Cir.enc]at gb⊢
 (refine svE Tryz.f26 ?_;simp only[Tryz.f26,gS])
 (repeat first|simp only[ww]|apply xa;simp+decide only[go_sem,gb,gA,gB,iU,gC,iY,iX,c1];rfl;kernel_rfl)
 exact a44 (vs:=[.nilslice,.int .i64 3]) (r:=(_,_)) (by simp+decide only[go_sem]<;>rfl) rfl ⟨_,rfl⟩
theorem c3p(md val:Nat)(nd pin be:Int)(e e1 n:Nat)(b:Bool)
 (aR:∀(d:Bool) (H:a03),cl d 21 [.agg c.enc,.agg (fb md nd pin val be)] H=some (.int .i64 e,H,[]))
 (gj:e=0->∀(d:Bool) (H:a03),cl d 65 [.agg [S1,.islice [tmR] (some 1),V]] H=some (.tuple [.int .i64 n,.int .i64 e1],H,[]))
 (cS:e=0->e1=0->∀(d:Bool) (H:a03),cl d 66 [S1,.islice ((sgs k m).map Sgn.row) (some (k+m))] H=some (.bool false,H,[]))
 (cap:Option Nat)(er:Nat)(rZ:(e≠0∧er=e)∨(e=0∧e1≠0∧er=e1)∨(e=0∧e1=0∧er=8)) :
 ∃r:AV×a03,(∃H1,r=(.tuple [.nilslice,.int .i64 er],H1))∧sM 26 [.agg c.enc,.agg [S1,.islice [tmR] (some 1),V],.islice [fb md nd pin val be] cap] []=some r:=by
 have gb:=λ(d:Bool) (H:a03)=>a3l (d:=d) H c hc ht;simp only[Cir.enc]at gb aR⊢;have qd:∀π,ren π V=V:=λπ=>a0b π _ kY;have oA:∀π,ren π S1=S1:=λπ=>a0b π _ iW;have i4:∀π:Nat->Option Nat,a0g π (.row 4 [ce c]) = .row 4 [ce c]:=λπ=>by simp+decide only[go_sem]
 have jg:a12 (some (.row 4 [ce c]))=[]:=by simp+decide only[go_sem]
 have jL:∀π:Nat->Option Nat,a0g π (.row 3 [[S1,.islice [tmR] (some 1),V]]) = .row 3 [[S1,.islice [tmR] (some 1),V]]:=λπ=>by simp+decide only[go_sem,qd,oA]
 have kZ:a12 (some (.row 3 [[S1,.islice [tmR] (some 1),V]]))=[]:=by simp+decide only[go_sem,kY,iW]
 (refine svE Tryz.f26 ?_;simp only[Tryz.f26,gS])
 (repeat first|simp only[ww]|apply xa;simp+decide only[go_sem,gb,gA,gB,iU,gC,iY,iX];rfl;kernel_rfl)
 refine a0m (σ:=Nat) kp26_1 (λj=>[(2,.islice [fb md nd pin val be] cap),(3,.ptr 0 0 0),(4,.ptr 1 0 0),(8,.islice ((sgs k m).map Sgn.row) (some (k+m))),(39,.islice [fb md nd pin val be] cap),(40,.int .i64 1),(41,.int .i64 j)]) (λ_=>[some (.row 4 [ce c]),some (.row 3 [[S1,.islice [tmR] (some 1),V]])]) (λj=>1-j) (λj=>j<=1∧(j=1->e=0)) 0 ?_ ⟨f2i _,λh=>absurd h (by decide)⟩ ?_
 ·(simp+decide only[go_sem,a01,a00,i4,jg,jL,kZ]<;>rfl)<;>rfl
 ·rintro j ⟨hj,fH⟩
  by_cases bV:j=0
  ·subst bV;by_cases he:e=0
   ·subst he
    (repeat first|simp only[ww]|apply xa;simp+decide only[go_sem,aR];rfl;kernel_rfl)
    refine a1m 1 ?_ (by omega) ⟨by omega,λ_=>by first|rfl|trivial⟩
    (simp+decide only[go_sem,a01,a00,i4,jg,jL,kZ]<;>rfl)<;>rfl
   ·obtain rfl:er=e:=by rcases rZ with h|h|h<;>omega
    have c1:¬(er:Int)=0:=by omega
    (repeat first|simp only[ww]|apply xa;simp+decide only[go_sem,aR,c1];rfl;kernel_rfl)
    exact a44 (vs:=[.nilslice,.int .i64 er]) (r:=(_,_)) (by simp+decide only[go_sem]<;>rfl) rfl ⟨_,rfl⟩
  obtain rfl:j=1:=by omega
  obtain rfl:=fH rfl;have gj:=gj rfl;by_cases he:e1=0
  ·subst he;obtain rfl:er=8:=by rcases rZ with h|h|h<;>omega
   (repeat first|simp only[ww]|apply xa;simp+decide only[go_sem,gj,cS,gA,gB,iU,gC,iY,iX];rfl;kernel_rfl)
   exact a44 (vs:=[.nilslice,.int .i64 8]) (r:=(_,_)) (by simp+decide only[go_sem]<;>rfl) rfl ⟨_,rfl⟩
  ·obtain rfl:er=e1:=by rcases rZ with h|h|h<;>omega
   have c1:¬(er:Int)=0:=by omega
   (repeat first|simp only[ww]|apply xa;simp+decide only[go_sem,gj,c1,gA,gB,iU,gC,iY,iX];rfl;kernel_rfl)
   exact a44 (vs:=[.nilslice,.int .i64 er]) (r:=(_,_)) (by simp+decide only[go_sem]<;>rfl) rfl ⟨_,rfl⟩
end
end Go.UInst
