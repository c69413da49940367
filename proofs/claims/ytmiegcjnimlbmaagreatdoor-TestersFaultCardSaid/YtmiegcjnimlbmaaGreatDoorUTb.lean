/- Part of a proof. No condition. -/
import Derived.Test.YtmiegcjnimlbmaaGreatDoorUTa
import Derived.Test.YtmiegcjnimlbmaaGreatDoorPcB
import Derived.Test.YtmiegcjnimlbmaaGreatDoorAxD
set_option linter.unusedSimpArgs false
set_option linter.unusedVariables false
namespace Go.UInst
set_option maxHeartbeats 200000000
open Go.Proofs Go.Ax Go.Pc
set_option maxRecDepth 100000
def gN(c:Cir)(ord x st:List Nat):List Nat:=c59 nAlg c.nodes hk0 ord (kinds c.nodes 0) (kinds c.nodes 14) x st
section
variable (c:Cir)(ord:List Nat)(A:List (Rep×List Nat))
def inA(i:Nat):List Nat:=(A.getD i (none,[])).2
def stA:Nat→List Nat
 |0=>List.replicate (kinds c.nodes 14).length 2
 |i+1=>a32 c.nodes (gN c ord (inA A i) (stA i))
def ouA(i:Nat):List Nat:=a1f c.outs (gN c ord (inA A i) (stA c ord A i))
def clR:List Nat→Rep|[]=>none|_::r=>some (some (r.length+1))
def ouB:List (Rep×List Nat):=(List.range A.length).map λj=>(clR (ouA c ord A j),ouA c ord A j)
def gdC:List (List UInt8):=d4f A (ouB c ord A)
end
theorem a84(l:List Nat):a39 l=sl (clR l) (l.map u8R):=by cases l<;>rfl
theorem a4c{A:List (Rep×List Nat)}{i:Nat}{a:Rep×List Nat}(h:A[i]?=some a):inA A i=a.2:=by unfold inA;rw[e9f,h];rfl
theorem b8r{d:Bool}(H:a03)(c:Cir)(hc:c.wf)(hO:c.outs≠[])(p:Pat)(hp:PatOk c.nodes p)(ord:List Nat)(aG:OrdOf c ord) :
 a0a L.env d (sem L.env Mf) (.func (.func 23) [] []) [.agg c.enc,.agg p.enc] H=some (.tuple [b0h (a1f c.outs (gN c ord p.ins p.sts)) (a32 c.nodes (gN c ord p.ins p.sts)),.islice ((gN c ord p.ins p.sts).map u8R) (some c.nodes.length),.int .i64 0],H,[]):=
 a04 (by kernel_rfl) (by kernel_rfl) rfl (by simp only[e7l,e7i,a06,a0n,Cir.enc,Pat.enc,go_sem]) (c7n c hc hO p hp ord aG) (by simp only[a5f,a06,a5o,b2q,a9l,a0z,e7i])
theorem a91{d:Bool}(H:a03)(c:Cir)(hc:c.wf):a0a L.env d (sem L.env Mf) (.func (.func 22) [] []) [.agg c.enc] H=some (.agg (a7g c).enc,H,[]):=a04 (by kernel_rfl) (by kernel_rfl) rfl (by simp only[e7l,e7i];exact a45 c) (c77 c hc) (by simp only[a0n,Pat.enc,a06,a1b,a0z,e7i])
theorem c8k(nodes:List Nd)(N:List Nat):(a32 nodes N).length=(kinds nodes 14).length:=by simp[a32]
theorem d32(nodes:List Nd)(N:List Nat):∀v∈a32 nodes N,v≤2:=by intro v hv;obtain⟨n,_,rfl⟩:=f0r.1 hv;unfold a56;omega
theorem c7l(c:Cir)(ord:List Nat)(A:List (Rep×List Nat)):∀i,(stA c ord A i).length=(kinds c.nodes 14).length
 |0=>by simp[stA]
 |i+1=>c8k _ _
theorem c7m(c:Cir)(ord:List Nat)(A:List (Rep×List Nat)):∀i,∀v∈stA c ord A i,v≤2
 |0=>λv hv=>by rw[f01 hv];omega
 |i+1=>d32 _ _
theorem a6h(outs N:List Nat):(a1f outs N).length=outs.length:=by simp[a1f]
theorem c8c(c:Cir)(ord:List Nat)(A:List (Rep×List Nat)){i:Nat}(hi:∀v∈inA A i,v≤3):∀v∈ouA c ord A i,v≤3:=by intro v hv;obtain⟨n,_,rfl⟩:=f0r.1 hv;exact b23 (b78 d69 _ _ _ _ _ hi (λv hv=>by have:=c7m c ord A i v hv;omega)) n
theorem c1e(c:Cir)(ord:List Nat)(A:List (Rep×List Nat)):(ouB c ord A).length=A.length:=by simp[ouB]
theorem c8b(c:Cir)(ord:List Nat)(A:List (Rep×List Nat)){j:Nat}(h:j<A.length):(ouB c ord A)[j]?=some (clR (ouA c ord A j),ouA c ord A j):=by unfold ouB;rw[e8a,f2d h];rfl
def stR(c:Cir)(ord:List Nat)(A:List (Rep×List Nat)):Nat→Rep
 |0=>some (some (kinds c.nodes 14).length)
 |i+1=>clR (stA c ord A (i+1))
theorem d0r(l:List Nat):(a39 l).cells=[a39 l]:=by cases l<;>rfl
theorem d0q(l:List Nat):(a39 l).isJunk=false:=by cases l<;>rfl
def zfo(n m i:Nat):List (List (List AV)):=(List.range n).map λj=>if j<i then List.replicate m [.int .u8 0]else[]
theorem b2a(n m i:Nat):(zfo n m i).length=n:=by simp[zfo]
theorem b2b{n m i j:Nat}(h:j<n):(zfo n m i)[j]?=some (if j<i then List.replicate m [.int .u8 0]else[]):=by unfold zfo;rw[e8a,f2d h];rfl
theorem d6v{n m i:Nat}(h:i<n):(zfo n m i).set i (List.replicate m [.int .u8 0])=zfo n m (i+1):=by
 apply e9p;intro j;rw[e8n,b2a];by_cases hj:j<n
 ·rw[b2b hj,b2b hj];by_cases e:i=j
  ·subst e;rw[e8j rfl,e8j hj,e8j (by omega)]
  ·rw[e8g e];by_cases h2:j<i
   ·rw[e8j h2,e8j (by omega)]
   ·rw[e8g h2,e8g (by omega)]
 ·have e:∀i,(zfo n m i)[j]?=none:=λi=>e8m (by rw[b2a];omega);rw[e,e,e8g (by omega)]
theorem d1u(H:a03)(b n m:Nat)(h:a02 H b=some (.row 1 (List.replicate n [.nilslice]))):Two H b 1 (λ_=>0) (λ_=>some m) (zfo n m 0):=by
 have hz:zfo n m 0=List.replicate n []:=by unfold zfo;rw[show(λj:Nat=>if j<0 then List.replicate m [AV.int .u8 0]else[])=λ_=>[]from by funext j;rw[e8g (f4b j)],List.map_const',f0o]
 rw[hz];have cK:∀(j:Nat) (f:List (List AV)),(List.replicate n ([]:List (List AV)))[j]?=some f→f=[]:=by
  intro j f hf;rw[f0t]at hf;split at hf
  ·cases hf;rfl
  ·cases hf
 refine⟨?_,λj f hf aw=>absurd (cK j f hf) aw,λi j f g hf _ aw=>absurd (cK i f hf) aw,λf hf=>by rw[f01 hf];exact FlatR.nil⟩;rw[h]
 congr 2
 unfold a2b;apply e9p;intro j;rw[e9g,f0t,f0t];split<;>rfl
theorem d6w(n m:Nat)(hm:0<m):(zfo n m n).mapIdx (λj f=>[slF (some m) f])=List.replicate n [.islice (List.replicate m [.int .u8 0]) (some m)]:=by
 apply e9p;intro j;rw[e9g,f0t];by_cases h:j<n
 ·rw[b2b h,e8j h,e8j h];obtain⟨q,rfl⟩:∃q,m=q+1:=⟨m-1,by omega⟩
  rfl
 ·rw[e8m (by rw[b2a];omega),e8g h];rfl
theorem d8w(c:Cir)(hc:c.wf){k m:Nat}(ht:Tio c k m)(ord:List Nat)(aG:OrdOf c ord)(ra:Rep)(A:List (Rep×List Nat))(ec:A.length≤1000)(hA:∀a∈A,a.2.length=k∧∀v∈a.2,v≤3) :
 sem L.env Mf 25 [.agg c.enc,sl ra (A.map vlR)] []=some (.tuple [.agg (a5x (sgs k m) (gdC c ord A)),.int .i64 0],[]):=by
 have ju:=λ(d:Bool) (H:a03)=>a7p (d:=d) H c hc ht;have kN:=λ(H:a03) (W:AV) (hW:a3e 0 false (a4e (a02 H) 0 12) W=some (sl (some (some A.length)) ((List.replicate A.length ((some (some m),List.replicate m 0):Rep×List Nat)).map vlR)))=>b57 (d:=false) (H:=H) c hc ht (ra:=ra) (rb:=some (some A.length)) (A:=A) (B:=List.replicate A.length (some (some m),List.replicate m 0)) ec (by simp) hA (λa ha=>by rw[f01 ha];exact⟨by simp,λv hv=>by rw[f01 hv];omega⟩) (a1h _ _ _ _ (a1b _ _)) hW;have cj:=λ(d:Bool) (H:a03)=>a91 (d:=d) H c hc;have hO:c.outs≠[]:=by intro e;have:=ht.out;have:=ht.m1;rw[e]at *;simp at *;omega
 have nh:=λ(d:Bool) (H:a03) (p:Pat) (hp:PatOk c.nodes p)=>b8r (d:=d) H c hc hO p hp ord aG;have cD:(kinds c.nodes 0).length=k:=by rw[ht.ins];simp
 have dF:∀i,(ouA c ord A i).length=m:=λi=>by unfold ouA;rw[a6h,ht.out]
 have cN:=λ(H:a03)=>c02 (d:=false) H c hc ht ra (some (some A.length)) A (ouB c ord A) ec (c1e c ord A).symm hA (λa ha=>by obtain⟨j,hj,rfl⟩:=f0r.1 ha;have bg:=f2g.1 hj;refine⟨dF j,c8c c ord A (λv hv=>?_)⟩;rw[a4c (z9e bg)]at hv;exact(hA _ (List.getElem_mem bg)).2 v hv);obtain⟨t1,t2,t3,t4,t5,t6⟩:=ht;have hn:=hc.len;have dC:=a3s k m;obtain⟨S,hS⟩:∃S,AV.islice ((sgs k m).map Sgn.row) (some (k+m))=S:=⟨_,rfl⟩
 rw[hS]at ju;obtain⟨V,hV⟩:∃V,b0a (gdC c ord A)=V:=⟨_,rfl⟩
 have mA:refs V=[]:=by rw[←hV];exact a4k _
 have ji:V.storable=true:=by rw[←hV];cases gdC c ord A<;>rfl
 have jj:V.cells=[V]:=by rw[←hV];cases gdC c ord A<;>rfl
 have eL:a5x (sgs k m) (gdC c ord A)=[S,.islice [tmR] (some 1),V]:=by unfold a5x;rw[dC,hS,hV]
 have j6:refs S=[]:=by rw[←hS];rfl
 have j5:S.storable=true:=by rw[←hS];rfl
 have pa:∀m t d,a3e m t d S=some S:=λm t d=>a1h m t d _ j6;have ud:∀m t d,a3e m t d V=some V:=λm t d=>a1h m t d _ mA;have tL:gdC c ord A=d4f A (ouB c ord A):=rfl;rw[←tL,eL]at cN;rw[eL];simp only[Cir.enc]at ju kN cj nh cN⊢;have cT:∀π:Nat→Option Nat,a0e π (.row 4 [[sl c.nc (c.nodes.map Nd.enc),sl c.mc (c.names.map a1c),.nilslice,sl c.oc (c.outs.map a0f)]]) = .row 4 [[sl c.nc (c.nodes.map Nd.enc),sl c.mc (c.names.map a1c),.nilslice,sl c.oc (c.outs.map a0f)]]:=λπ=>by simp+decide only[go_sem]
 have cS:a0y (some (.row 4 [[sl c.nc (c.nodes.map Nd.enc),sl c.mc (c.names.map a1c),.nilslice,sl c.oc (c.outs.map a0f)]]))=[]:=by simp+decide only[go_sem]
 have jm:∀π:Nat→Option Nat,a0e π (.row 3 [[.nilslice,.nilslice,.nilslice]]) = .row 3 [[.nilslice,.nilslice,.nilslice]]:=λπ=>by simp+decide only[go_sem]
 have sy:a0y (some (.row 3 [[.nilslice,.nilslice,.nilslice]]))=[]:=by simp+decide only[go_sem]
 have aK:A.length≤1000000000:=by omega
 (refine sv Tryz.f25 ?_;simp only[Tryz.f25,gS])
 (repeat first|simp only[ww]|(apply xa;simp+decide only[go_sem,ju,aK,c10];rfl;kernel_rfl))
 have kO:∀(i cb pb b:Nat) (aq:Nat→Nat) (H2:a03),i≤A.length→a02 H2 cb=some (.row 4 [[sl c.nc (c.nodes.map Nd.enc),sl c.mc (c.names.map a1c),.nilslice,sl c.oc (c.outs.map a0f)]])→a02 H2 pb=some (.row 3 [[.nilslice,.nilslice,.nilslice]])→Two H2 b 1 aq (λ_=>some m) (zfo A.length m i)→∀F1:Frm,a0d ((a1o [1,2,4,8,30,31,1000003] F1).map (·.2))=[cb,pb,b]→
  (∀π,b5h π (a1o [1,2,4,8,30,31,1000003] F1)=[(1,sl ra (A.map vlR)),(2,ren π (.ptr cb 0 0)),(4,ren π (.ptr pb 0 0)),(8,ren π (.slice b 0 A.length (some A.length))),(30,.int .i64 A.length),(31,.int .i64 (i:Nat)),(1000003,.junk)])→∃F H,gcD 0 [1,2,4,8,30,31,1000003] F1 H2=some (F,H)∧
  ∃(i':Nat) (aq:Nat→Nat),A.length-i=A.length-i'∧i'≤A.length∧F=[(1,sl ra (A.map vlR)),(2,.ptr 0 0 0),(4,.ptr 1 0 0),(8,.slice 2 0 A.length (some A.length)),(30,.int .i64 A.length),(31,.int .i64 (i':Nat)),(1000003,.junk)]∧a02 H 0=some (.row 4 [[sl c.nc (c.nodes.map Nd.enc),sl c.mc (c.names.map a1c),.nilslice,sl c.oc (c.outs.map a0f)]])∧a02 H 1=some (.row 3 [[.nilslice,.nilslice,.nilslice]])∧Two H 2 1 aq (λ_=>some m) (zfo A.length m i'):=by
  intro i cb pb b aq H2 hi h1 h2 hT F1 gG mE;have jB:cb≠pb:=by intro e;rw[e,h2]at h1;cases h1
  obtain⟨bO,_⟩:=hT.apart h1 (by omega) (by omega);obtain⟨eF,_⟩:=hT.apart h2 (by omega) (by omega);obtain⟨F,H,hg,l8,mN,b',aL,e1,e2,e3,e4⟩:=hT.headX (F:=F1) (keep:=[1,2,4,8,30,31,1000003]) (P:=λF H=>∃(l8 mN b':Nat) (aL:Nat→Nat),F=[(1,sl ra (A.map vlR)),(2,.ptr l8 0 0),(4,.ptr mN 0 0),(8,.slice b' 0 A.length (some A.length)),(30,.int .i64 A.length),(31,.int .i64 (i:Nat)),(1000003,.junk)]∧a02 H l8=some (.row 4 [[sl c.nc (c.nodes.map Nd.enc),sl c.mc (c.names.map a1c),.nilslice,sl c.oc (c.outs.map a0f)]])∧a02 H mN=some (.row 3 [[.nilslice,.nilslice,.nilslice]])∧Two H b' 1 aL (λ_=>some m) (zfo A.length m i)) [cb,pb]
   (by intro x hx;simp only[e9m,List.not_mem_nil,or_false]at hx;rcases hx with rfl|rfl;rw[h1];exact cS;rw[h2];exact sy) (by rw[gG];simp) (by rw[gG];simp) (by rw[gG];simp) (by rw[gG];simp) (by rw[b2a];omega) (by
    intro π b' aL H1 hb eG qI;obtain⟨l8,e1,e2⟩:=qI cb (by simp);obtain⟨mN,e3,e4⟩:=qI pb (by simp);refine⟨l8,mN,b',aL,?_,?_,?_,eG⟩
    ·rw[mE];simp+decide only[go_sem,e1,e3,hb]<;>rfl
    ·rw[e2,h1];show some (a0e π _)=_;rw[cT]
    ·rw[e4,h2];show some (a0e π _)=_;rw[jm])
  obtain⟨π,f1,f2,f3,f4⟩:=c9x hg gG (by rw[h1];exact cS) (by rw[h2];exact sy) jB bO eF;rw[mE]at f1;have f5:F=[(1,sl ra (A.map vlR)),(2,.ptr 0 0 0),(4,.ptr 1 0 0),(8,.slice 2 0 A.length (some A.length)),(30,.int .i64 A.length),(31,.int .i64 (i:Nat)),(1000003,.junk)]:=by rw[f1];simp+decide only[go_sem,f2,f3,f4]<;>rfl
  have f6:=e1.symm.trans f5;simp only[List.cons.injEq,Prod.mk.injEq,AV.ptr.injEq,AV.slice.injEq,true_and,and_true]at f6;obtain⟨rfl,rfl,rfl⟩:=f6;exact⟨F,H,hg,i,aL,rfl,hi,e1,e2,e3,e4⟩
 refine c0k kp25_0 rfl 3 rfl (λN F H=>∃(i:Nat) (aq:Nat→Nat),N=A.length-i∧i≤A.length∧F=[(1,sl ra (A.map vlR)),(2,.ptr 0 0 0),(4,.ptr 1 0 0),(8,.slice 2 0 A.length (some A.length)),(30,.int .i64 A.length),(31,.int .i64 (i:Nat)),(1000003,.junk)]∧a02 H 0=some (.row 4 [[sl c.nc (c.nodes.map Nd.enc),sl c.mc (c.names.map a1c),.nilslice,sl c.oc (c.outs.map a0f)]])∧a02 H 1=some (.row 3 [[.nilslice,.nilslice,.nilslice]])∧Two H 2 1 aq (λ_=>some m) (zfo A.length m i)) (A.length-0) ?_ ?_
 ·refine kO 0 0 1 2 (λ_=>0) _ (e8e _) rfl rfl (d1u _ _ _ _ rfl) _ (by simp+decide only[go_sem]<;>rfl) (λπ=>by simp+decide only[go_sem]<;>rfl)
 ·rintro N F H ⟨i,aq,rfl,hi,rfl,bO,eF,hT⟩
  by_cases aj:i<A.length
  ·have d1:(i:Int)<A.length:=by omega
   have aT:=wI1 (n:=i) (by omega);have cF:=a1a bO;have cC:=a1a eF;have lV:=a1a hT.top;have cW:=hT.top;have aO:=a50 (aq:=aq) (cp:=λ_=>some m) (b2b (n:=A.length) (m:=m) (i:=i) aj);rw[e8g (Nat.lt_irrefl i)]at aO;simp only[slV]at aO;have bT:(a2b aq (λ_=>some m) (zfo A.length m i)).length=A.length:=by rw[a2j,b2a]
   have gt:m≤1000000000:=by omega
   have mD:H.length≠2:=by omega
   have un:(2<H.length)=True:=by simpa using lV
   (repeat first|simp only[ww]|(apply xa;simp+decide only[go_sem,d1,t4,aj,bO,eF,cW,aO,bT,gt,aT,cF,cC,lV,a6l,a73,b8v,b0c,c10,f0l,a7w,a9o];rfl;kernel_rfl))
   have sT:List.replicate m [AV.int .u8 0]≠[]:=by intro e;have:=congrArg List.length e;simp at this;omega
   have sS:FlatR (List.replicate m [AV.int .u8 0]):=λr hr=>by rw[f01 hr];rfl
   have eG:Two (H.set 2 (some (.row 1 ((a2b aq (λ_=>some m) (zfo A.length m i)).set i [.slice H.length 0 m (some m)])))++[some (.row 1 (List.replicate m [.int .u8 0]))]) 2 1 (λj=>if j=i then H.length else aq j) (λ_=>some m) (zfo A.length m (i+1)):=by
    rw[←d6v aj];refine hT.put (by rw[b2b aj,e8g (Nat.lt_irrefl i)]) sT sS (e9k _) ?_ ?_ ?_
    ·rw[a38 lV,e8j rfl,f3x]
    ·have:=a5r (H:=H) (L:=[some (AObj.row 1 (List.replicate m [AV.int .u8 0]))]) (a:=2) (o:=some (.row 1 ((a2b aq (λ_=>some m) (zfo A.length m i)).set i [.slice H.length 0 m (some m)]))) 0;rw[f3y]at this;rw[this];rfl
    ·intro j g a8 hg aw;obtain⟨g1,g2⟩:=hT.sub j g hg aw;rw[a38 (a1a g1),e8g (f2x g2)]
   exact a0x (A.length-(i+1)) (by omega) (kO (i+1) 0 1 2 _ _ aj (by rw[a38 cF,e8g (by omega),bO]) (by rw[a38 cC,e8g (by omega),eF]) eG _ (by simp+decide only[go_sem]<;>rfl) (λπ=>by simp+decide only[go_sem]<;>rfl))
  ·obtain rfl:i=A.length:=by omega
   have d1:¬(A.length:Int)<A.length:=by omega
   (repeat first|simp only[ww]|(apply xa;simp+decide only[go_sem,d1,c10];rfl;kernel_rfl))
   -- frozen
   obtain⟨my,tT⟩:=hT.apart bO (by omega) (by omega);obtain⟨uM,tS⟩:=hT.apart eF (by omega) (by omega);have qg:∀j f,(zfo A.length m A.length)[j]?=some f→f≠[]→3≤aq j:=λj f h1 h2=>by have e1:=tT j f h1 h2;have e2:=tS j f h1 h2;have e3:=(hT.sub j f h1 h2).2;omega
   have lH:=hT.frzT 3 qg;rw[d6w _ _ t5]at lH;have um:b3r 3 H=[some (.row 4 [[sl c.nc (c.nodes.map Nd.enc),sl c.mc (c.names.map a1c),.nilslice,sl c.oc (c.outs.map a0f)]]),some (.row 3 [[.nilslice,.nilslice,.nilslice]]),some (.row 1 (List.replicate A.length [.islice (List.replicate m [.int .u8 0]) (some m)]))]:=by have lU:FlatR [[sl c.nc (c.nodes.map Nd.enc),sl c.mc (c.names.map a1c),.nilslice,sl c.oc (c.outs.map a0f)]]:=FlatR.cons (a2i c) FlatR.nil;have cA:FlatR [[AV.nilslice,AV.nilslice,AV.nilslice]]:=FlatR.cons rfl FlatR.nil;unfold b3r;rw[c4o bO eF hT.top];simp only[e12,e7j,e8d,b1q,a3l lU,a3l cA,lH]
   rw[c5t];simp only[e8c,e9y,um];simp+decide only[go_sem];obtain⟨z,hz⟩:∃z,[AV.islice (List.replicate m [AV.int .u8 0]) (some m)]=z:=⟨_,rfl⟩
   have bZ:a0d z=[]:=by rw[←hz];rfl
   have ek:z=vlR (some (some m),List.replicate m 0):=by rw[←hz];simp only[vlR,a68,f3c];rfl
   rw[hz];have qi:=λ(X Y:Option AObj)=>kN [X,Y,some (.row 1 (List.replicate A.length z))] (.slice 2 0 A.length (some A.length)) (by
    have h4:((List.replicate A.length z).drop 0).take A.length=List.replicate A.length z:=by rw[f0u];exact e8b (by simp)
    have h5:=a12 (m:=0) (d:=a4e (a02 [X,Y,some (.row 1 (List.replicate A.length z))]) 0 11) (aa:=List.replicate A.length z) (λr hr=>by rw[f01 hr];exact bZ);have h6:a02 [X,Y,some (.row 1 (List.replicate A.length z))] 2=some (.row 1 (List.replicate A.length z)):=rfl;rw[a68,f3c,←ek];simp+decide only[a5s,a4p,h6,a95,a0g,h4,h5,f3x,e9y,e9k,f3b,decide_false,e9i,e9q])
   obtain⟨f,hf⟩:∃f:Nat→List AV,f=λj=>[a39 (ouA c ord A j)]:=⟨_,rfl⟩
   have eh:∀j,a0d (f j)=[]:=λj=>by rw[hf];simp only[a06,a1x,a0z,e7i]
   have qB:(a7g c).enc=[sl (a7g c).ic ((a7g c).ins.map u8R),sl (stR c ord A 0) ((stA c ord A 0).map u8R)]:=rfl;rw[qB]at cj;obtain⟨BI,pk⟩:∃BI,sl (a7g c).ic ((a7g c).ins.map u8R)=BI:=⟨_,rfl⟩
   have l4:refs BI=[]:=by rw[←pk];exact a1b _ _
   have mG:∀π,ren π BI=BI:=λπ=>a0w π _ l4;have sF:BI.storable=true:=by rw[←pk];rfl
   have sG:BI.cells=[BI]:=by rw[←pk];rfl
   rw[pk]at cj
   (repeat first|simp only[ww]|(apply xa;simp+decide only[go_sem,qi,cj,sF,sG];rfl;kernel_rfl))
   refine b2c kp25_2 rfl 2 rfl (σ:=Nat) (λi=>[(1,sl ra (A.map vlR)),(2,.ptr 0 0 0),(4,.ptr 1 0 0),(8,.slice 2 0 A.length (some A.length)),(11,.ptr 3 0 0),(52,sl ra (A.map vlR)),(53,.int .i64 A.length),(54,.int .i64 i),(1000002,.junk)])
    (λi=>[some (.row 4 [[sl c.nc (c.nodes.map Nd.enc),sl c.mc (c.names.map a1c),.nilslice,sl c.oc (c.outs.map a0f)]]),some (.row 3 [[.nilslice,.nilslice,.nilslice]]),some (.row 1 (upT f z A.length i)),some (.row 2 [[BI,sl (stR c ord A i) ((stA c ord A i).map u8R)]])]) (λi=>A.length-i) (λi=>i≤A.length) 0 ?_ (e8e _) ?_
   ·rw[←c72 (f:=f)];have h1:=a08 (a2o (f:=f) (z:=z) (n:=A.length) (i:=0) bZ eh);have h2:=λπ=>a05 π (a2o (f:=f) (z:=z) (n:=A.length) (i:=0) bZ eh)
    (simp+decide only[go_sem,a01,a00,h1,h2,l4,mG,c10]<;>rfl)<;>rfl
   ·intro i hi;by_cases aj:i<A.length
    ·have d1:(i:Int)<A.length:=by omega
     have aT:=wI1 (n:=i) (by omega);obtain⟨a,ha⟩:∃a,A[i]?=some a:=⟨_,z9e aj⟩
     obtain⟨a1,a2⟩:=hA a (c11 ha);have jg:vlR a=[sl a.1 (a.2.map u8R)]:=rfl;have hp:PatOk c.nodes ⟨a.1,a.2,stR c ord A i,stA c ord A i⟩:=⟨by rw[cD];exact a1,c7l c ord A i,a2,λv hv=>by have:=c7m c ord A i v hv;omega⟩
     have hr:=λ(d:Bool) (H:a03)=>nh d H _ hp;have e1:a1f c.outs (gN c ord a.2 (stA c ord A i))=ouA c ord A i:=by unfold ouA;rw[a4c ha]
     have e2:a32 c.nodes (gN c ord a.2 (stA c ord A i))=stA c ord A (i+1):=by show _=a32 c.nodes (gN c ord (inA A i) (stA c ord A i));rw[a4c ha]
     simp only[Pat.enc,e1,e2]at hr;have e3:a39 (stA c ord A (i+1))=sl (stR c ord A (i+1)) ((stA c ord A (i+1)).map u8R):=a84 _;have jW:f i=[a39 (ouA c ord A i)]:=by rw[hf]
     have aE:=b2f (f:=f) (z:=z) aj;have br:=c2s (f:=f) (z:=z) aj;have eu:=a66 (f:=f) (z:=z) (n:=A.length) (i:=i);rw[jW]at aE;have h1:=a08 (a2o (f:=f) (z:=z) (n:=A.length) (i:=i+1) bZ eh);have h2:=λπ=>a05 π (a2o (f:=f) (z:=z) (n:=A.length) (i:=i+1) bZ eh);unfold b0h at hr;rw[e3]at hr;have c1:=a27 (ouA c ord A i);have c2:=d0r (ouA c ord A i);have c3:=d0q (ouA c ord A i);have gn:z.length=1:=by rw[←hz];rfl
     have oH:z.drop 1=[]:=List.drop_of_length_le (by omega);generalize a39 (ouA c ord A i)=CO at hr aE c1 c2 c3;generalize(gN c ord a.2 (stA c ord A i)).map u8R=GN at hr
     (repeat first|simp only[ww]|(apply xa;simp+decide only[go_sem,d1,aj,ha,jg,aT,hr,br,eu,aE,gn,oH,sF,sG,c1,c2,c3,c10];rfl;kernel_rfl))
     refine a25 (i+1) ?_ (by omega) (by omega)
     (simp+decide only[go_sem,a01,a00,h1,h2,l4,mG,c10]<;>rfl)<;>rfl
    ·obtain rfl:i=A.length:=by omega
     have d1:¬(A.length:Int)<A.length:=by omega
     have jI:upT f z A.length A.length=(ouB c ord A).map vlR:=by rw[b6t,hf];unfold ouB;rw[f3e];exact f0i λj _=>by rw[a84];rfl
     have iH:=a66 (f:=f) (z:=z) (n:=A.length) (i:=A.length);rw[jI]at iH;rw[jI];have m7:=d96 (ouB c ord A);simp only[a68]at cN;generalize(ouB c ord A).map vlR=U at iH m7 cN;have lU:FlatR [[sl c.nc (c.nodes.map Nd.enc),sl c.mc (c.names.map a1c),.nilslice,sl c.oc (c.outs.map a0f)]]:=FlatR.cons (a2i c) FlatR.nil;have cA:FlatR [[AV.nilslice,AV.nilslice,AV.nilslice]]:=FlatR.cons rfl FlatR.nil;have mD:∀Y:Option AObj,b3r 2 [some (.row 4 [[sl c.nc (c.nodes.map Nd.enc),sl c.mc (c.names.map a1c),.nilslice,sl c.oc (c.outs.map a0f)]]),some (.row 3 [[.nilslice,.nilslice,.nilslice]]),some (.row 1 U),Y]=[some (.row 4 [[sl c.nc (c.nodes.map Nd.enc),sl c.mc (c.names.map a1c),.nilslice,sl c.oc (c.outs.map a0f)]]),some (.row 3 [[.nilslice,.nilslice,.nilslice]])]:=λY=>by unfold b3r;simp only[List.take_succ_cons,e9l,e12,e7j,e8d,b1q,a3l lU,a3l cA]
     have dT:=λm d=>a12 (m:=m) (d:=d) m7;have cX:U.take A.length=U:=e8b (by omega)
     (repeat first|simp only[ww]|(apply xa;simp+decide only[go_sem,d1];rfl;kernel_rfl))
     rw[c5t];simp only[e9y,mD];simp+decide only[go_sem,dT,cX,iH]
     (repeat first|simp only[ww]|(apply xa;simp+decide only[go_sem,cN,j5,ji,jj];rfl;kernel_rfl))
     (apply fqb;simp+decide only[go_sem,pa,ud]<;>rfl)
theorem c9u{d:Bool}(H:a03)(c:Cir)(hc:c.wf){k m:Nat}(ht:Tio c k m)(ord:List Nat)(aG:OrdOf c ord)(ra:Rep)(A:List (Rep×List Nat))(ec:A.length≤1000)(hA:∀a∈A,a.2.length=k∧∀v∈a.2,v≤3) :
 a0a L.env d (sem L.env Mf) (.func (.func 25) [] []) [.agg c.enc,sl ra (A.map vlR)] H=some (.tuple [.agg (a5x (sgs k m) (gdC c ord A)),.int .i64 0],H,[]):=
 a04 (by kernel_rfl) (by kernel_rfl) rfl (by simp only[e7l,e7i,a06,a1b,a0z,a0n];exact a2i c) (d8w c hc ht ord aG ra A ec hA) (by simp only[a5f,a06,a0n,a46,a0z,a9l,e7i])
theorem c7b(s:Sgn)(h:b8g s.nm)(hd:s.dir≤1):sem L.env Mf 47 [.agg s.row] []=some (.bool true,[]):=by
 have hn:=λ(d:Bool) (H:a03)=>b5m (d:=d) h H;have c1:(s.dir:Int)≤1:=by omega
 simp only[Sgn.row]
 (refine sv Tryz.f47 ?_;simp only[Tryz.f47,gS])
 (repeat first|simp only[ww]|(apply xa;simp+decide only[go_sem,hn,c1];rfl;kernel_rfl))
 (apply fqb;simp+decide only[go_sem]<;>rfl)
theorem c0t{d:Bool}(H:a03)(s:Sgn)(h:b8g s.nm)(hd:s.dir≤1):a0a L.env d (sem L.env Mf) (.func (.func 47) [] []) [.agg s.row] H=some (.bool true,H,[]):=a04 (by kernel_rfl) (by kernel_rfl) rfl rfl (c7b s h hd) rfl
theorem c0q{d:Bool}(H:a03):a0a L.env d (sem L.env Mf) (.func (.func 48) [] []) [.agg tmR] H=some (.bool true,H,[]):=a04 (by kernel_rfl) (by kernel_rfl) rfl rfl (a0o (E:=L.env) a0m 60 (by kernel_rfl)) rfl
def d1o(dir:Nat)(b:UInt8):Prop:=(dir=0∧(b=48∨b=49∨b=88))∨(dir=1∧(b=76∨b=72∨b=88))
theorem e82{b:UInt8}(h:b=48∨b=49∨b=88):∃n:Nat,sem L.env Mf 95 [.str [48,49,88,80],.int .u8 b.toNat] []=some (.int .i64 n,[]):=by
 rcases h with rfl|rfl|rfl
 ·exact⟨0,a0o (E:=L.env) a0m 60 (by kernel_rfl)⟩
 ·exact⟨1,a0o (E:=L.env) a0m 60 (by kernel_rfl)⟩
 ·exact⟨2,a0o (E:=L.env) a0m 60 (by kernel_rfl)⟩
theorem e3a{b:UInt8}(h:b=76∨b=72∨b=88):∃n:Nat,sem L.env Mf 95 [.str [76,72,88],.int .u8 b.toNat] []=some (.int .i64 n,[]):=by
 rcases h with rfl|rfl|rfl
 ·exact⟨0,a0o (E:=L.env) a0m 60 (by kernel_rfl)⟩
 ·exact⟨1,a0o (E:=L.env) a0m 60 (by kernel_rfl)⟩
 ·exact⟨2,a0o (E:=L.env) a0m 60 (by kernel_rfl)⟩
structure VecOk(sg:List Sgn)(s:List UInt8):Prop where
 len:s.length=sg.length
 cell:∀(i:Nat) (g:Sgn) (b:UInt8),sg[i]?=some g→s[i]?=some b→d1o g.dir b
theorem c6y(sg:List Sgn)(vs:List (List UInt8))(s:List UInt8)(hs:VecOk sg s)(hl:sg.length≤1000):sem L.env Mf 49 [.agg (vcR s),.agg (a5x sg vs)] []=some (.bool true,[]):=by
 obtain⟨T,hT⟩:∃T,b0a vs=T:=⟨_,rfl⟩
 have sr:refs T=[]:=by rw[←hT];exact a4k _
 have mC:T.storable=true:=by rw[←hT];cases vs<;>rfl
 have eL:a5x sg vs=[.islice (sg.map Sgn.row) (some sg.length),.islice [tmR] (some 1),T]:=by unfold a5x;rw[hT]
 rw[eL];have dC:=hs.len;simp only[vcR]
 (refine sv Tryz.f49 ?_;simp only[Tryz.f49,gS])
 (repeat first|simp only[ww]|(apply xa;simp+decide only[go_sem,mC,dC,c10];rfl;kernel_rfl))
 refine a0l (σ:=Nat) kp49_0 (λi=>[(2,.ptr 0 0 0),(39,.islice (sg.map Sgn.row) (some sg.length)),(40,.int .i64 sg.length),(41,.int .i64 i)])
  (λi=>[some (.row 3 [[.int .i64 0,.str s,.int .i64 1]])]) (λi=>sg.length-i) (λi=>i≤sg.length) 0 ?_ (e8e _) ?_
 ·(simp+decide only[go_sem,a01,a00,c10]<;>rfl)<;>rfl
 ·intro i hi;by_cases aj:i<sg.length
  ·obtain⟨g,hg⟩:∃g,sg[i]?=some g:=⟨_,z9e aj⟩
   obtain⟨b,hb⟩:∃b,s[i]?=some b:=⟨_,z9e (by omega)⟩
   have d1:(i:Int)<sg.length:=by omega
   have aT:=wI1 (n:=i) (by omega);have jy:g.row=[.str g.nm,.int .u8 g.dir]:=rfl;rcases hs.cell i g b hg hb with ⟨hd,hc⟩|⟨hd,hc⟩
   ·obtain⟨n,hn⟩:=e82 hc;have iq:=λ(d:Bool) (H:a03)=>a04 (E:=L.env) (ag:=d) (call:=sem L.env Mf) (g:=95) (fs:=[]) (cs:=[]) (ar:=[.str [48,49,88,80],.int .u8 b.toNat]) (H:=H) (by kernel_rfl) (by kernel_rfl) rfl rfl hn rfl;have e1:¬(g.dir:Int)=1:=by omega
    have e2:¬(n:Int)<0:=by omega
    (repeat first|simp only[ww]|(apply xa;simp+decide only[go_sem,d1,aj,hg,jy,hb,iq,e1,e2,aT,dC,c10];rfl;kernel_rfl))
    refine a25 (i+1) ?_ (by omega) (by omega)
    (simp+decide only[go_sem,a01,a00]<;>rfl)<;>rfl
   ·obtain⟨n,hn⟩:=e3a hc;have iq:=λ(d:Bool) (H:a03)=>a04 (E:=L.env) (ag:=d) (call:=sem L.env Mf) (g:=95) (fs:=[]) (cs:=[]) (ar:=[.str [76,72,88],.int .u8 b.toNat]) (H:=H) (by kernel_rfl) (by kernel_rfl) rfl rfl hn rfl;have e1:(g.dir:Int)=1:=by omega
    have e2:¬(n:Int)<0:=by omega
    (repeat first|simp only[ww]|(apply xa;simp+decide only[go_sem,d1,aj,hg,jy,hb,iq,e1,e2,aT,dC,c10];rfl;kernel_rfl))
    refine a25 (i+1) ?_ (by omega) (by omega)
    (simp+decide only[go_sem,a01,a00]<;>rfl)<;>rfl
  ·obtain rfl:i=sg.length:=by omega
   have d1:¬(sg.length:Int)<sg.length:=by omega
   (repeat first|simp only[ww]|(apply xa;simp+decide only[go_sem,d1];rfl;kernel_rfl))
   (apply fqb;simp+decide only[go_sem]<;>rfl)
theorem c0m{d:Bool}(H:a03)(sg:List Sgn)(vs:List (List UInt8))(s:List UInt8)(hs:VecOk sg s)(hl:sg.length≤1000):a0a L.env d (sem L.env Mf) (.func (.func 49) [] []) [.agg (vcR s),.agg (a5x sg vs)] H=some (.bool true,H,[]):=a04 (by kernel_rfl) (by kernel_rfl) rfl (by simp only[e7l,e7i,a06,a0n,a46,a0z];rfl) (c6y sg vs s hs hl) rfl
/- names that differ -/
def b0b(l:List (List UInt8)):List (List AV):=l.map λs=>[.str s]
theorem d74:sem L.env Mf 50 [.islice (b0b [[116]]) none] []=some (.bool false,[]):=a0o (E:=L.env) a0m 60 (by kernel_rfl)
set_option maxRecDepth 1000000 in
theorem d21(k m:Nat)(k1:1≤k)(k4:k≤4)(m1:1≤m)(m4:m≤4):sem L.env Mf 50 [.islice (b0b (nms k m)) none] []=some (.bool false,[]):=by
 have hk:k=1∨k=2∨k=3∨k=4:=by omega
 have hm:m=1∨m=2∨m=3∨m=4:=by omega
 rcases hk with rfl|rfl|rfl|rfl<;>rcases hm with rfl|rfl|rfl|rfl<;>exact a0o (E:=L.env) a0m 60 (by kernel_rfl)
theorem b7s(l:List (List UInt8)):FlatR (b0b l):=FlatR.map λ_=>rfl
theorem b55{d:Bool}{H:a03}{b n:Nat}{l:List (List UInt8)}(hn:n=l.length)(hb:a02 H b=some (.row 1 (b0b l)))(h:sem L.env Mf 50 [.islice (b0b l) none] []=some (.bool false,[])) :
 a0a L.env d (sem L.env Mf) (.func (.func 50) [] []) [.slice b 0 n none] H=some (.bool false,H,List.range H.length):=by
 subst hn;refine a6p (args:=[.slice b 0 l.length none]) (au:=[.islice (b0b l) none]) (by kernel_rfl) (by kernel_rfl) rfl ?_ (v:=.bool false) (H1:=[]) h rfl rfl;have h2:=a12 (m:=0) (d:=a4e (a02 H) 0 11) (b7s l);have h4:((b0b l).drop 0).take l.length=b0b l:=by rw[f0u];exact e8b (by simp[b0b])
 have h5:(b0b l).length=l.length:=by simp[b0b]
 have kR:decide (b<0)=false:=f2q (f4b b);simp+decide only[a3m,b7o,a5s,kR,a4p,hb,a95,a0g,h4,h2,h5,e9y,e9k,f3b,decide_false,e9i,e9q]
theorem d4t(k m:Nat)(k1:1≤k)(k4:k≤4)(m1:1≤m)(m4:m≤4)(vs:List (List UInt8))(fI:vs.length≤1000)(e9:∀s∈vs,VecOk (sgs k m) s):sem L.env Mf 18 [.agg (a5x (sgs k m) vs)] []=some (.int .i64 0,[]):=by
 obtain⟨T,hT⟩:∃T,b0a vs=T:=⟨_,rfl⟩
 have sr:refs T=[]:=by rw[←hT];exact a4k _
 have mC:T.storable=true:=by rw[←hT];cases vs<;>rfl
 have o8:∀π,ren π T=T:=λπ=>a0w π _ sr;have jk:∃r,T=sl r (vs.map vcR):=by
  rw[←hT];cases vs with
  |nil=>exact⟨none,rfl⟩
  |cons v r=>exact⟨some (some (r.length+1)),rfl⟩
 obtain⟨tr,og⟩:=jk;have dC:=a3s k m;have gy:=c2w k4 m4;have rx:=d21 k m k1 k4 m1 m4;have qt:∀s∈sgs k m,s.dir≤1:=by intro s hs;unfold sgs at hs;rcases e9s.1 hs with h|h<;>(obtain⟨i,_,rfl⟩:=f0r.1 h;simp[sgI,sgO])
 have eL:a5x (sgs k m) vs=[.islice ((sgs k m).map Sgn.row) (some (sgs k m).length),.islice [tmR] (some 1),T]:=by unfold a5x;rw[hT]
 have gO:=λ(d:Bool) (H:a03) (s:List UInt8) (hs:s∈vs)=>c0m (d:=d) H (sgs k m) vs s (e9 s hs) (by omega);have rz:=λ(d:Bool) (H:a03) (s:Sgn) (hs:s∈sgs k m)=>c0t (d:=d) H s (gy s hs) (qt s hs);have md:=λ(d:Bool) (H:a03)=>c0q (d:=d) H;have jv:∀i g,(sgs k m)[i]?=some g→(nms k m).take (i+1)=(nms k m).take i++[g.nm]:=λi g h=>a1d (by unfold nms;rw[e8a,h];rfl);have dw:(nms k m).length=k+m:=by unfold nms;rw[c10,dC]
 rw[eL]at gO⊢;generalize nms k m=NM at rx jv dw;generalize sgs k m=G at dC rz jv eL gO;have gh:(G.map Sgn.row).length=k+m:=by rw[c10,dC]
 have oh:∀π:Nat→Option Nat,a0e π (.row 3 [[.islice (G.map Sgn.row) (some G.length),.islice [tmR] (some 1),T]]) = .row 3 [[.islice (G.map Sgn.row) (some G.length),.islice [tmR] (some 1),T]]:=λπ=>by simp+decide only[go_sem,o8]
 rw[dC];rw[dC]at gO oh;have c1:¬(256:Int)<(k+m:Nat):=by omega
 have c2:¬(65536:Int)<vs.length:=by omega
 have dY:∀(h:FHeap),True:=λ_=>trivial;subst og;simp only[tmR]at md⊢
 (refine sv Tryz.f18 ?_;simp only[Tryz.f18,gS])
 (repeat first|simp only[ww]|(apply xa;simp+decide only[go_sem,c1,c2,gh,mC,c10];rfl;kernel_rfl))
 refine a0l (σ:=Nat) kp18_0 (λi=>[(1,.ptr 0 0 0),(3,grV 1 (b0b (NM.take i))),(4,.nilslice),(29,.islice (G.map Sgn.row) (some (k+m))),(30,.int .i64 (k+m:Nat)),(31,.int .i64 i)])
  (λi=>some (.row 3 [[.islice (G.map Sgn.row) (some (k+m)),.islice [[.str [116],.int .i64 100,.int .i64 0,.int .i64 30,.int .i64 60,.int .i64 90]] (some 1),sl tr (vs.map vcR)]])::grH 1 (b0b (NM.take i))) (λi=>k+m-i) (λi=>i≤k+m) 0 ?_ (e8e _) ?_
 ·rw[e9l]
  (simp+decide only[go_sem,a01,a00,b0b,e7j,a0p,a0q,gh,c10]<;>rfl)<;>rfl
 ·intro i hi;by_cases aj:i<k+m
  ·obtain⟨g,hg⟩:∃g,G[i]?=some g:=⟨_,z9e (by omega)⟩
   have d1:(i:Int)<(k+m:Nat):=by omega
   have aT:=wI1 (n:=i) (by omega);have jy:g.row=[.str g.nm,.int .u8 g.dir]:=rfl;have ig:=λ(d:Bool) (H:a03)=>rz d H g (c11 hg);rw[jy]at ig;have r6:i<G.length:=by omega
   have iO:=jv i g hg;have nB:(NM.take i).length=i:=by rw[f02];omega
   cases bJ:NM.take i with
   |nil=>
    (repeat first|simp only[ww]|(apply xa;simp+decide only[go_sem,d1,aj,r6,hg,jy,ig,aT,gh,b0b,e7j,a0p,a0q,c10];rfl;kernel_rfl))
    refine a25 (i+1) ?_ (by omega) (by omega);rw[iO,bJ]
    (simp+decide only[go_sem,a01,a00,b0b,e7l,e12,e7j,a09,a0b,e8c,gh,c10]<;>rfl)<;>rfl
   |cons v r=>
    rw[bJ]at nB;have aK:r.length+1+1≤1000000000:=by simp only[e7g]at nB;omega
    have lL:=b7s r;have h3:=a08 lL;have h4:=λπ=>a05 π lL;unfold b0b at h3 h4
    (repeat first|simp only[ww]|(apply xa;simp+decide only[go_sem,d1,aj,r6,hg,jy,ig,aT,gh,b0b,e12,a09,a0b,aK,c10];rfl;kernel_rfl))
    refine a25 (i+1) ?_ (by omega) (by omega);rw[iO,bJ]
    (simp+decide only[go_sem,a01,a00,b0b,e9h,e12,e8l,e7j,a09,a0b,e8i,e7g,e8c,c10,h3,h4,e7i,gh]<;>rfl)<;>rfl
  ·obtain rfl:i=k+m:=by omega
   have d1:¬((k+m:Nat):Int)<(k+m:Nat):=by omega
   rw[e8b (by omega)];have aw:b0b NM≠[]:=by intro e;have:=congrArg List.length e;simp[b0b]at this;rw[this]at dw;simp at dw;omega
   have oQ:(b0b NM).length=k+m:=by simp[b0b,dw]
   rw[a7e 1 aw,a7f 1 aw,oQ];have sa:=b7s NM;have h1:=a08 sa;have h2:=λπ=>a05 π sa;have m9:=λ(d:Bool) (X:Option AObj) (R:a03)=>b55 (d:=d) (H:=X::some (.row 1 (b0b NM))::R) (b:=1) dw.symm rfl rx;have m8:=λ(d:Bool) (X Y:Option AObj) (R:a03)=>b55 (d:=d) (H:=X::Y::some (.row 1 (b0b [[116]]))::R) (b:=2) (n:=1) rfl rfl d74;simp only[b0b,e12,e7j]at m8;generalize b0b NM=SN at h1 h2 m9
   (repeat first|simp only[ww]|(apply xa;simp+decide only[go_sem,d1,mC,c10];rfl;kernel_rfl))
   refine a0l (σ:=Nat) kp18_2 (λi=>match i with|0=>[(1,.ptr 0 0 0),(3,.slice 1 0 (k+m) none),(4,.nilslice),(45,.islice [[.str [116],.int .i64 100,.int .i64 0,.int .i64 30,.int .i64 60,.int .i64 90]] (some 1)),(46,.int .i64 1),(47,.int .i64 0)]|_=>[(1,.ptr 0 0 0),(3,.slice 1 0 (k+m) none),(4,.slice 2 0 1 none),(45,.islice [[.str [116],.int .i64 100,.int .i64 0,.int .i64 30,.int .i64 60,.int .i64 90]] (some 1)),(46,.int .i64 1),(47,.int .i64 1)])
    (λi=>match i with|0=>[some (.row 3 [[.islice (G.map Sgn.row) (some (k+m)),.islice [[.str [116],.int .i64 100,.int .i64 0,.int .i64 30,.int .i64 60,.int .i64 90]] (some 1),sl tr (vs.map vcR)]]),some (.row 1 SN)]|_=>[some (.row 3 [[.islice (G.map Sgn.row) (some (k+m)),.islice [[.str [116],.int .i64 100,.int .i64 0,.int .i64 30,.int .i64 60,.int .i64 90]] (some 1),sl tr (vs.map vcR)]]),some (.row 1 SN),some (.row 1 [[.str [116]]])]) (λi=>1-i) (λi=>i≤1) 0 ?_ (e8e _) ?_
   ·(simp+decide only[go_sem,a01,a00,h1,h2,c10]<;>rfl)<;>rfl
   ·intro i hi
    match i,hi with
    |0,_=>
     (repeat first|simp only[ww]|(apply xa;simp+decide only[go_sem,md,c10];rfl;kernel_rfl))
     refine a25 1 ?_ (by omega) (by omega)
     (simp+decide only[go_sem,a01,a00,h1,h2,c10]<;>rfl)<;>rfl
    |1,_=>
     (repeat first|simp only[ww]|(apply xa;simp+decide only[go_sem,mC,c10];rfl;kernel_rfl))
     refine a0l (σ:=Nat) kp18_4 (λi=>[(1,.ptr 0 0 0),(3,.slice 1 0 (k+m) none),(4,.slice 2 0 1 none),(9,.int .i64 i),(61,sl tr (vs.map vcR)),(62,.int .i64 vs.length),(63,.int .i64 i)])
      (λi=>[some (.row 3 [[.islice (G.map Sgn.row) (some (k+m)),.islice [[.str [116],.int .i64 100,.int .i64 0,.int .i64 30,.int .i64 60,.int .i64 90]] (some 1),sl tr (vs.map vcR)]]),some (.row 1 SN),some (.row 1 [[.str [116]]])]) (λi=>vs.length-i) (λi=>i≤vs.length) 0 ?_ (e8e _) ?_
     ·(simp+decide only[go_sem,a01,a00,h1,h2,c10]<;>rfl)<;>rfl
     ·intro i hi;by_cases aj:i<vs.length
      ·obtain⟨s,hs⟩:∃s,vs[i]?=some s:=⟨_,z9e aj⟩
       have d1:(i:Int)<vs.length:=by omega
       have aT:=wI1 (n:=i) (by omega);have eE:vcR s=[.int .i64 0,.str s,.int .i64 1]:=rfl;have oO:=λ(d:Bool) (H:a03)=>gO d H s (c11 hs);simp only[eE,tmR]at oO;have db:¬(1000001:Int)<(i+1:Nat):=by omega
       (repeat first|simp only[ww]|(apply xa;simp+decide only[go_sem,d1,aj,hs,eE,oO,aT,db,f3w,mC,c10];rfl;kernel_rfl))
       refine a25 (i+1) ?_ (by omega) (by omega)
       (simp+decide only[go_sem,a01,a00,h1,h2,c10]<;>rfl)<;>rfl
      ·obtain rfl:i=vs.length:=by omega
       have d1:¬(vs.length:Int)<vs.length:=by omega
       have d2:¬(1000000:Int)<vs.length:=by omega
       (repeat first|simp only[ww]|(apply xa;simp+decide only[go_sem,d1,m9,m8,d2];rfl;kernel_rfl))
       (apply fqb;simp+decide only[go_sem]<;>rfl)
section
variable {k m:Nat}(k1:1≤k)(k4:k≤4)(m1:1≤m)(m4:m≤4){vs:List (List UInt8)}(fI:vs.length≤1000)(e9:∀s∈vs,VecOk (sgs k m) s)
include k1 k4 m1 m4 fI e9
theorem c6b{d:Bool}(H:a03):a0a L.env d (sem L.env Mf) (.func (.func 18) [] []) [.agg (a5x (sgs k m) vs)] H=some (.int .i64 0,H,[]):=a04 (by kernel_rfl) (by kernel_rfl) rfl (by simp only[e7l,e7i,a06,a0n,a46,a0z]) (d4t k m k1 k4 m1 m4 vs fI e9) rfl
theorem d0k:sem L.env Mf 65 [.agg (a5x (sgs k m) vs)] []=some (.tuple [.int .i64 vs.length,.int .i64 0],[]):=by
 have bA:=λ(d:Bool) (H:a03)=>c6b (d:=d) k1 k4 m1 m4 fI e9 H;obtain⟨T,hT⟩:∃T,b0a vs=T:=⟨_,rfl⟩
 have jk:∃r,T=sl r (vs.map vcR):=by
  rw[←hT];cases vs with
  |nil=>exact⟨none,rfl⟩
  |cons v r=>exact⟨some (some (r.length+1)),rfl⟩
 obtain⟨tr,og⟩:=jk;have eL:a5x (sgs k m) vs=[.islice ((sgs k m).map Sgn.row) (some (sgs k m).length),.islice [tmR] (some 1),sl tr (vs.map vcR)]:=by unfold a5x;rw[hT,og]
 rw[eL]at bA⊢;simp only[tmR]at bA⊢;generalize(sgs k m).map Sgn.row=G at bA⊢
 (refine sv Tryz.f65 ?_;simp only[Tryz.f65,gS])
 (repeat first|simp only[ww]|(apply xa;simp+decide only[go_sem,bA,c10];rfl;kernel_rfl))
 refine a0l (σ:=Nat) kp65_0 (λi=>[(5,.int .i64 i),(14,sl tr (vs.map vcR)),(15,.int .i64 vs.length),(16,.int .i64 i)]) (λi=>[]) (λi=>vs.length-i) (λi=>i≤vs.length) 0 ?_ (e8e _) ?_
 ·(simp+decide only[go_sem,a01,a00,c10]<;>rfl)<;>rfl
 ·intro i hi;by_cases aj:i<vs.length
  ·obtain⟨s,hs⟩:∃s,vs[i]?=some s:=⟨_,z9e aj⟩
   have d1:(i:Int)<vs.length:=by omega
   have aT:=wI1 (n:=i) (by omega);have eE:vcR s=[.int .i64 0,.str s,.int .i64 1]:=rfl
   (repeat first|simp only[ww]|(apply xa;simp+decide only[go_sem,d1,aj,hs,eE,aT,c10];rfl;kernel_rfl))
   refine a25 (i+1) ?_ (by omega) (by omega)
   (simp+decide only[go_sem,a01,a00]<;>rfl)<;>rfl
  ·obtain rfl:i=vs.length:=by omega
   have d1:¬(vs.length:Int)<vs.length:=by omega
   (repeat first|simp only[ww]|(apply xa;simp+decide only[go_sem,d1];rfl;kernel_rfl))
   (apply fqb;simp+decide only[go_sem]<;>rfl)
theorem b42{d:Bool}(H:a03):a0a L.env d (sem L.env Mf) (.func (.func 65) [] []) [.agg (a5x (sgs k m) vs)] H=some (.tuple [.int .i64 vs.length,.int .i64 0],H,[]):=a04 (by kernel_rfl) (by kernel_rfl) rfl (by simp only[e7l,e7i,a06,a0n,a46,a0z]) (d0k k1 k4 m1 m4 fI e9) rfl
theorem d97:sem L.env Mf 67 [.agg (a5x (sgs k m) vs),.int .i64 vs.length] []=some (.tuple [.islice (vs.map vcR) (some vs.length),.int .i64 0],[]):=by
 have jA:=λ(d:Bool) (H:a03)=>b42 (d:=d) k1 k4 m1 m4 fI e9 H;obtain⟨T,hT⟩:∃T,b0a vs=T:=⟨_,rfl⟩
 have jk:∃r,T=sl r (vs.map vcR):=by
  rw[←hT];cases vs with
  |nil=>exact⟨none,rfl⟩
  |cons v r=>exact⟨some (some (r.length+1)),rfl⟩
 obtain⟨tr,og⟩:=jk;have eL:a5x (sgs k m) vs=[.islice ((sgs k m).map Sgn.row) (some (sgs k m).length),.islice [tmR] (some 1),sl tr (vs.map vcR)]:=by unfold a5x;rw[hT,og]
 rw[eL]at jA⊢;simp only[tmR]at jA⊢;generalize(sgs k m).map Sgn.row=G at jA⊢;have c1:¬(vs.length:Int)<vs.length:=by omega
 have kC:c6s L.env 64 0 (vs.length:Int)=true:=by have h1:=a70 (E:=L.env) (e:=64) (m:=vs.length) (by omega) (by decide+kernel);unfold c6s at h1⊢;simp only[e7h,e9j]at h1⊢;exact⟨⟨⟨Int.le_refl 0,h1.1.1.1⟩,h1.1.2⟩,h1.2⟩
 obtain⟨f,hf⟩:∃f:Nat→List AV,f=λj=>vcR (vs.getD j []):=⟨_,rfl⟩
 have eh:∀j,a0d (f j)=[]:=λj=>by rw[hf];rfl
 obtain⟨z,hz⟩:∃z,[AV.int .i64 0,.str [],.int .i64 0]=z:=⟨_,rfl⟩
 have bZ:a0d z=[]:=by rw[←hz];rfl
 (refine sv Tryz.f67 ?_;simp only[Tryz.f67,gS])
 (repeat first|simp only[ww]|(apply xa;simp+decide only[go_sem,jA,c1,kC,c10];rfl;kernel_rfl))
 rw[hz];refine a0l (σ:=Nat) kp67_1 (λi=>[(8,.slice 0 0 i (some vs.length)),(27,sl tr (vs.map vcR)),(28,.int .i64 vs.length),(29,.int .i64 i)]) (λi=>[some (.row 3 (upT f z vs.length i))]) (λi=>vs.length-i) (λi=>i≤vs.length) 0 ?_ (e8e _) ?_
 ·rw[←c72 (f:=f)];have h1:=a08 (a2o (f:=f) (z:=z) (n:=vs.length) (i:=0) bZ eh);have h2:=λπ=>a05 π (a2o (f:=f) (z:=z) (n:=vs.length) (i:=0) bZ eh)
  (simp+decide only[go_sem,a01,a00,h1,h2,c10]<;>rfl)<;>rfl
 ·intro i hi;by_cases aj:i<vs.length
  ·obtain⟨s,hs⟩:∃s,vs[i]?=some s:=⟨_,z9e aj⟩
   have d1:(i:Int)<vs.length:=by omega
   have aT:=wI1 (n:=i) (by omega);have eE:vcR s=[.int .i64 0,.str s,.int .i64 1]:=rfl;have jW:f i=[.int .i64 0,.str s,.int .i64 1]:=by rw[hf,←eE];simp only[e9f,hs,e9x]
   have h0:=a08 (a2o (f:=f) (z:=z) (n:=vs.length) (i:=i) bZ eh);have uo:=λπ=>a05 π (a2o (f:=f) (z:=z) (n:=vs.length) (i:=i) bZ eh);have h1:=a08 (a2o (f:=f) (z:=z) (n:=vs.length) (i:=i+1) bZ eh);have h2:=λπ=>a05 π (a2o (f:=f) (z:=z) (n:=vs.length) (i:=i+1) bZ eh);have aE:=b2f (f:=f) (z:=z) aj;have eu:=a66 (f:=f) (z:=z) (n:=vs.length) (i:=i);rw[jW]at aE;have eO:i≤vs.length:=by omega
   have d8:i+1≤vs.length:=by omega
   have pH:(upT f z vs.length i).take i++[[.int .i64 0,.str s,.int .i64 1]]++(upT f z vs.length i).drop (i+1)=upT f z vs.length (i+1):=by rw[←aE,List.set_eq_take_append_cons_drop,e8j (by rw[eu];exact aj)];simp
   (repeat first|simp only[ww]|(apply xa;simp+decide only[go_sem,d1,aj,hs,eE,aT,c10];rfl;kernel_rfl))
   refine a0l (σ:=Bool) kp67_3 (λq=>[(8,.slice 0 0 (bif q then i+1 else i) (some vs.length)),(10,.ptr 1 0 0),(27,sl tr (vs.map vcR)),(28,.int .i64 vs.length),(29,.int .i64 i),(34,.int .i64 1),(35,.int .i64 (bif q then 1 else 0))])
    (λq=>[some (.row 3 (upT f z vs.length (bif q then i+1 else i))),some (.row 3 [[.int .i64 0,.str s,.int .i64 1]])]) (λq=>bif q then 0 else 1) (λ_=>True) false ?_ trivial ?_
   ·(simp+decide only[go_sem,a01,a00,h0,uo,c10]<;>rfl)<;>rfl
   ·intro q _;cases q with
    |false=>
     simp only[e9q]
     (repeat first|simp only[ww]|(apply xa;simp+decide only[go_sem,eu,eO,d8,pH];rfl;kernel_rfl))
     refine a25 true ?_ (by decide) trivial
     (simp+decide only[go_sem,a01,a00,h1,h2,c10]<;>rfl)<;>rfl
    |true=>
     simp only[e9i]
     (repeat first|simp only[ww]|(apply xa;simp+decide only[go_sem,aT];rfl;kernel_rfl))
     refine a25 (i+1) ?_ (by omega) (by omega)
     (simp+decide only[go_sem,a01,a00,h1,h2]<;>rfl)<;>rfl
  ·obtain rfl:i=vs.length:=by omega
   have d1:¬(vs.length:Int)<vs.length:=by omega
   have jI:upT f z vs.length vs.length=vs.map vcR:=by rw[b6t,hf];have:=congrArg (List.map vcR) (b5j vs []);rw[f3e]at this;exact this
   have iH:=a66 (f:=f) (z:=z) (n:=vs.length) (i:=vs.length);rw[jI]at iH;rw[jI];have dT:=λm d=>a12 (m:=m) (d:=d) (b7r vs);have cX:(vs.map vcR).take vs.length=vs.map vcR:=e8b (by omega);generalize vs.map vcR=U at dT iH cX⊢
   (repeat first|simp only[ww]|(apply xa;simp+decide only[go_sem,d1];rfl;kernel_rfl))
   (apply fqb;simp+decide only[go_sem,dT,iH,cX]<;>rfl)
theorem d08{d:Bool}(H:a03):a0a L.env d (sem L.env Mf) (.func (.func 67) [] []) [.agg (a5x (sgs k m) vs),.int .i64 vs.length] H=some (.tuple [.islice (vs.map vcR) (some vs.length),.int .i64 0],H,[]):=a04 (by kernel_rfl) (by kernel_rfl) rfl (by simp only[e7l,e7i,a06,a0n,a46,a0z,a9l]) (d97 k1 k4 m1 m4 fI e9) rfl
end
def xz(v:Nat):Nat:=if v≤1 then v else 2
def xA(A:List (Rep×List Nat)):List (Rep×List Nat):=A.map λa=>(some (some a.2.length),a.2.map xz)
theorem b9p(A:List (Rep×List Nat))(i:Nat):inA (xA A) i=(inA A i).map xz:=by unfold inA xA;rw[e9f,e9f,e8a];cases A[i]?<;>rfl
theorem e1r(v:Nat):xz v≤2:=by unfold xz;split<;>omega
theorem b9o{A:List (Rep×List Nat)}{i k:Nat}(h:(inA A i).length=k):(inA (xA A) i).length=k:=by rw[b9p,c10,h]
theorem c3i(A:List (Rep×List Nat))(i:Nat):∀v∈inA (xA A) i,v≤2:=by rw[b9p];intro v hv;obtain⟨w,_,rfl⟩:=f0r.1 hv;exact e1r w
theorem c7q(G:List Sgn)(c1 c2:Option Nat)(hl:G.length≤1000):sem L.env Mf 66 [.islice (G.map Sgn.row) c1,.islice (G.map Sgn.row) c2] []=some (.bool true,[]):=by
 have c0:(G.length:Int)=G.length:=rfl
 (refine sv Tryz.f66 ?_;simp only[Tryz.f66,gS])
 (repeat first|simp only[ww]|(apply xa;simp+decide only[go_sem,c10];rfl;kernel_rfl))
 refine a0l (σ:=Nat) kp66_0 (λi=>[(0,.islice (G.map Sgn.row) c1),(1,.islice (G.map Sgn.row) c2),(12,.int .i64 G.length),(13,.int .i64 i)]) (λi=>[]) (λi=>G.length-i) (λi=>i≤G.length) 0 ?_ (e8e _) ?_
 ·(simp+decide only[go_sem,a01,a00]<;>rfl)<;>rfl
 ·intro i hi;by_cases aj:i<G.length
  ·obtain⟨g,hg⟩:∃g,G[i]?=some g:=⟨_,z9e aj⟩
   have d1:(i:Int)<G.length:=by omega
   have aT:=wI1 (n:=i) (by omega);have jy:g.row=[.str g.nm,.int .u8 g.dir]:=rfl
   (repeat first|simp only[ww]|(apply xa;simp+decide only[go_sem,d1,aj,hg,jy,aT,c10,beq_self_eq_true,f1e,f2n];rfl;kernel_rfl))
   refine a25 (i+1) ?_ (by omega) (by omega)
   (simp+decide only[go_sem,a01,a00]<;>rfl)<;>rfl
  ·obtain rfl:i=G.length:=by omega
   have d1:¬(G.length:Int)<G.length:=by omega
   (repeat first|simp only[ww]|(apply xa;simp+decide only[go_sem,d1];rfl;kernel_rfl))
   (apply fqb;simp+decide only[go_sem]<;>rfl)
theorem c14{d:Bool}(H:a03)(G:List Sgn)(c1 c2:Option Nat)(hl:G.length≤1000):a0a L.env d (sem L.env Mf) (.func (.func 66) [] []) [.islice (G.map Sgn.row) c1,.islice (G.map Sgn.row) c2] H=some (.bool true,H,[]):=a04 (by kernel_rfl) (by kernel_rfl) rfl rfl (c7q G c1 c2 hl) rfl
theorem e1w:∀v:Nat,v<4→sem L.env Mf 69 [.int .u8 (a5c 48 49 v).toNat] []=some (.int .u8 (xz v),[]):=e5u (a0o (E:=L.env) a0m 60 (by kernel_rfl)) (a0o (E:=L.env) a0m 60 (by kernel_rfl)) (a0o (E:=L.env) a0m 60 (by kernel_rfl)) (a0o (E:=L.env) a0m 60 (by kernel_rfl))
theorem c2r{d:Bool}(H:a03)(v:Nat)(hv:v≤3):a0a L.env d (sem L.env Mf) (.func (.func 69) [] []) [.int .u8 (a5c 48 49 v).toNat] H=some (.int .u8 (xz v),H,[]):=a04 (by kernel_rfl) (by kernel_rfl) rfl rfl (e1w v (by omega)) rfl
/- the machine -/
def vlC(n:Nat)(l:List Nat):AV:=.islice (l.map u8R) (some n)
theorem c2q(n:Nat)(l:List Nat):refs (vlC n l)=[]:=rfl
theorem c2d{E:Env}{d:Bool}{call:CallF}{g:FuncId}{fs cs ar args:List AV}{H:a03}{k:Nat}{aa:List (List AV)}(hx:E.ext g=false)(hf:(E.fn g).isSome=true)(he:fs++ar++cs=args)(aD:a0d args=[])(hr:call g args []=some (.ptr 0 0 0,[some (.row k aa)]))(bY:FlatR aa) :
 a0a E d call (.func (.func g) fs cs) ar H=some (.ptr H.length 0 0,H++[some (.row k aa)],[]):=by
 have hc:=a1r (call g) args H (σ:=[]) (by rw[aD];rfl) rfl rfl (au:=args) (a2t _ aD) (H0:=[]) rfl hr;have hp:∀(s:Nat) (H:a03),a13 [] H.length [some (AObj.row k aa)] s H=H:=by
  intro s H;have:∀(n s:Nat) (H:a03),a13 [] n [some (AObj.row k aa)] s H=H:=by
   intro n s H
   induction H generalizing s with
   |nil=>rfl
   |cons x H ih=>simp[a13,ih]
  exact this _ _ _
 rw[hp]at hc;have h1:=λπ=>a05 π bY;have hb:ren (a18 [] H.length) (.ptr 0 0 0) = .ptr H.length 0 0:=rfl;rw[hb]at hc;simp only[e8c,f0u,e12,e7j,e8d,a0e,h1]at hc;exact d0x hx hf he hc (by simp)
theorem c8q:sem L.env Mf 71 [.nilslice] []=some (.nilslice,[]):=by
 (refine sv Tryz.f71 ?_;simp only[Tryz.f71,gS])
 (repeat first|simp only[ww]|(apply xa;simp+decide only[go_sem];rfl;kernel_rfl))
 (apply fqb;simp+decide only[go_sem]<;>rfl)
theorem c1n{d:Bool}(H:a03):a0a L.env d (sem L.env Mf) (.func (.func 71) [] []) [.nilslice] H=some (.nilslice,H,[]):=a04 (by kernel_rfl) (by kernel_rfl) rfl rfl c8q rfl
theorem b80{l:List Nat}{n:Nat}(h:l.length=n)(hn:1≤n):a39 l = .islice (l.map u8R) (some n):=by
 cases l with
 |nil=>simp at h;omega
 |cons x r=>subst h;rfl
section
variable (c:Cir)(ord:List Nat)(A:List (Rep×List Nat))
end
theorem c98(x:CX){i:Nat}(h:i<x.k):a0t x.nodes i=0:=by unfold a0t CX.nodes;rw[e7m,e8f (by simpa using h),f0t,e8j h];rfl
theorem c99(x:CX){i:Nat}(h:x.k≤i)(hn:i<x.n):a0t x.nodes i≠0:=by
 have hl:=CX.nodes_len x;obtain⟨nd,aU⟩:∃nd,x.nodes[i]?=some nd:=⟨_,z9e (by omega)⟩
 rw[a16 aU];have lx:=aU;unfold CX.nodes at lx;rw[e7m,e8h (by simpa using h),f3x]at lx;have dm:=c11 lx;rw[e9s]at dm;rcases dm with hm|hm
 ·unfold CX.dn at hm;obtain⟨v,_,rfl⟩:=f0r.1 hm;show(14:Nat)≠0;omega
 ·obtain⟨q,hq⟩:=List.getElem?_of_mem hm;obtain⟨g,hg⟩:=c9z _ _ _ _ _ hq;have rZ:=b9t x.bus g (x.base++((Go.Pc.gN x.bus x.base x.gs).take q).map Nd.kind) (by
   rw[e8i,x.base_len];have:0<x.k:=by unfold CX.k;omega
   omega)
  rw[←hg]at rZ;have:=rZ.k1;omega
theorem d3j(x:CX):kinds x.nodes 0=List.range x.k:=by
 unfold kinds a3g;have hl:=CX.nodes_len x;have hk:x.n=x.k+(x.n-x.k):=by unfold CX.n;omega
 rw[hl,hk,List.range_add,List.filter_append];have h1:(List.range x.k).filter (λi=>decide (a0t x.nodes i=0))=List.range x.k:=by rw[List.filter_eq_self];intro i hi;simp[c98 x (f2g.1 hi)]
 have h2:((List.range (x.n-x.k)).map (x.k + ·)).filter (λi=>decide (a0t x.nodes i=0))=[]:=by rw[List.filter_eq_nil_iff];intro i hi;obtain⟨j,hj,rfl⟩:=f0r.1 hi;have:=f2g.1 hj;simp[c99 x (i:=x.k+j) (by omega) (by omega)]
 rw[h1,h2,e7i]
theorem e20(x:CX):Tio (a8p x).cir (a8p x).k (a8p x).outN.length:=by
 have h1:(a8p x).k=x.inn%4+1:=rfl;have h2:(a8p x).outN.length=(x.outs.take 3).length+1:=by show(CX.outN _).length=_;unfold CX.outN;simp[a8p]
 have h3:(x.outs.take 3).length≤3:=List.length_take_le _ _;exact⟨d3j _,by omega,by omega,rfl,by omega,by omega⟩
theorem d9l{v:Nat}(h:v≤3):d1o 0 (a5c 48 49 v):=by
 have:v=0∨v=1∨v=2∨v=3:=by omega
 rcases this with rfl|rfl|rfl|rfl
 ·exact .inl ⟨rfl,.inl (by decide)⟩
 ·exact .inl ⟨rfl,.inr (.inl (by decide))⟩
 ·exact .inl ⟨rfl,.inr (.inr (by decide))⟩
 ·exact .inl ⟨rfl,.inr (.inr (by decide))⟩
theorem d4v{v:Nat}(h:v≤3):d1o 1 (a5c 76 72 v):=by
 have:v=0∨v=1∨v=2∨v=3:=by omega
 rcases this with rfl|rfl|rfl|rfl
 ·exact .inr ⟨rfl,.inl (by decide)⟩
 ·exact .inr ⟨rfl,.inr (.inl (by decide))⟩
 ·exact .inr ⟨rfl,.inr (.inr (by decide))⟩
 ·exact .inr ⟨rfl,.inr (.inr (by decide))⟩
theorem d70{k m:Nat}{a b:List Nat}(ha:a.length=k)(hb:b.length=m)(od:∀v∈a,v≤3)(o5:∀v∈b,v≤3):VecOk (sgs k m) (cyc a b):=by
 refine⟨by unfold cyc;rw[e8i,c10,c10,a3s];omega,?_⟩;intro i g y hg hy;unfold sgs at hg;unfold cyc at hy;by_cases h:i<k
 ·rw[e8f (by simpa using h),e8a,f2d h]at hg;rw[e8f (by simp;omega),e8a]at hy;cases hg;obtain⟨v,hv,rfl⟩:=Option.map_eq_some_iff.1 hy;exact d9l (od v (c11 hv))
 ·rw[e8h (by simp;omega),e8a]at hg;rw[e8h (by simp;omega),e8a]at hy;obtain⟨j,hj,rfl⟩:=Option.map_eq_some_iff.1 hg;obtain⟨v,hv,rfl⟩:=Option.map_eq_some_iff.1 hy;exact d4v (o5 v (c11 hv))
theorem e1v(c:Cir){k m:Nat}(ht:Tio c k m)(ord:List Nat)(A:List (Rep×List Nat))(hA:∀a∈A,a.2.length=k∧∀v∈a.2,v≤3):∀s∈gdC c ord A,VecOk (sgs k m) s:=by
 intro s hs;obtain⟨i,hi⟩:=List.getElem?_of_mem hs;have hl:(gdC c ord A).length=A.length:=b7v (c1e c ord A).symm;have dp:i<A.length:=by have:=(e7k.1 hi).1;omega
 obtain⟨a,ha⟩:∃a,A[i]?=some a:=⟨_,z9e dp⟩
 have hc:(gdC c ord A)[i]?=some (cyc a.2 (ouA c ord A i)):=b7w ha (c8b c ord A dp);rw[hc]at hi;cases hi;obtain⟨h1,h2⟩:=hA a (c11 ha);exact d70 h1 (by unfold ouA;rw[a6h,ht.out]) h2 (c8c c ord A (λv hv=>by rw[a4c ha]at hv;exact h2 v hv))
end Go.UInst
