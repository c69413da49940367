/- Part of a proof. No condition. -/
import Derived.Test.YtmiegcjnimlbmaaGreatDoorUTa
import Derived.Test.YtmiegcjnimlbmaaGreatDoorPcB
import Derived.Test.YtmiegcjnimlbmaaGreatDoorAxD
set_option linter.unusedSimpArgs false
set_option linter.unusedVariables false
namespace Go.UInst
set_option maxHeartbeats 200000000
open Go.Proofs Go.Ax Go.Pc
set_option maxRecDepth 100000
def gN(c:Cir)(ord x st:List Nat):List Nat:=c6q nAlg c.nodes hk0 ord (kinds c.nodes 0) (kinds c.nodes 14) x st
section
variable (c:Cir)(ord:List Nat)(A:List (Rep×List Nat))
def inA(i:Nat):List Nat:=(A.getD i (none,[])).2
def stA:Nat→List Nat
 |0=>List.replicate (kinds c.nodes 14).length 2
 |i+1=>a1r c.nodes (gN c ord (inA A i) (stA i))
def ouA(i:Nat):List Nat:=a1p c.outs (gN c ord (inA A i) (stA c ord A i))
def clR:List Nat→Rep|[]=>none|_::r=>some (some (r.length+1))
def ouB:List (Rep×List Nat):=(List.range A.length).map λj=>(clR (ouA c ord A j),ouA c ord A j)
def gdC:List (List UInt8):=d2e A (ouB c ord A)
end
theorem a9a(l:List Nat):a3m l=sl (clR l) (l.map u8R):=by cases l<;>rfl
theorem a5a{A:List (Rep×List Nat)}{i:Nat}{a:Rep×List Nat}(h:A[i]?=some a):inA A i=a.2:=by unfold inA;rw[e7x,h];rfl
theorem b1l{d:Bool}(H:a02)(c:Cir)(hc:c.wf)(hO:c.outs≠[])(p:Pat)(hp:PatOk c.nodes p)(ord:List Nat)(aS:OrdOf c ord) :
 a09 L.env d (sem L.env Mf) (.func (.func 23) [] []) [.agg c.enc,.agg p.enc] H=some (.tuple [b9o (a1p c.outs (gN c ord p.ins p.sts)) (a1r c.nodes (gN c ord p.ins p.sts)),.islice ((gN c ord p.ins p.sts).map u8R) (some c.nodes.length),.int .i64 0],H,[]):=
 a04 (by kernel_rfl) (by kernel_rfl) rfl (by simp only[e5m,e4t,a06,a0z,Cir.enc,Pat.enc,go_sem]) (d59 c hc hO p hp ord aS) (by simp only[a9r,a06,b1u,a6c,a8u,a0r,e4t])
theorem a89{d:Bool}(H:a02)(c:Cir)(hc:c.wf):a09 L.env d (sem L.env Mf) (.func (.func 22) [] []) [.agg c.enc] H=some (.agg (a6t c).enc,H,[]):=a04 (by kernel_rfl) (by kernel_rfl) rfl (by simp only[e5m,e4t];exact a4c c) (c5i c hc) (by simp only[a0z,Pat.enc,a06,a12,a0r,e4t])
theorem c6o(nodes:List Nd)(N:List Nat):(a1r nodes N).length=(kinds nodes 14).length:=by simp[a1r]
theorem d10(nodes:List Nd)(N:List Nat):∀v∈a1r nodes N,v≤2:=by intro v hv;obtain⟨n,_,rfl⟩:=e7t.1 hv;unfold a3r;omega
theorem b9g(c:Cir)(ord:List Nat)(A:List (Rep×List Nat)):∀i,(stA c ord A i).length=(kinds c.nodes 14).length
 |0=>by simp[stA]
 |i+1=>c6o _ _
theorem c1b(c:Cir)(ord:List Nat)(A:List (Rep×List Nat)):∀i,∀v∈stA c ord A i,v≤2
 |0=>λv hv=>by rw[e7q hv];omega
 |i+1=>d10 _ _
theorem a8v(outs N:List Nat):(a1p outs N).length=outs.length:=by simp[a1p]
theorem c1n(c:Cir)(ord:List Nat)(A:List (Rep×List Nat)){i:Nat}(hi:∀v∈inA A i,v≤3):∀v∈ouA c ord A i,v≤3:=by intro v hv;obtain⟨n,_,rfl⟩:=e7t.1 hv;exact c21 (d12 e0u _ _ _ _ _ hi (λv hv=>by have:=c1b c ord A i v hv;omega)) n
theorem b64(c:Cir)(ord:List Nat)(A:List (Rep×List Nat)):(ouB c ord A).length=A.length:=by simp[ouB]
theorem b9t(c:Cir)(ord:List Nat)(A:List (Rep×List Nat)){j:Nat}(h:j<A.length):(ouB c ord A)[j]?=some (clR (ouA c ord A j),ouA c ord A j):=by unfold ouB;rw[e5n,e8v h];rfl
def stR(c:Cir)(ord:List Nat)(A:List (Rep×List Nat)):Nat→Rep
 |0=>some (some (kinds c.nodes 14).length)
 |i+1=>clR (stA c ord A (i+1))
theorem c0q(l:List Nat):(a3m l).cells=[a3m l]:=by cases l<;>rfl
theorem c0p(l:List Nat):(a3m l).isJunk=false:=by cases l<;>rfl
def zfo(n m i:Nat):List (List (List AV)):=(List.range n).map λj=>if j<i then List.replicate m [.int .u8 0]else[]
theorem b1g(n m i:Nat):(zfo n m i).length=n:=by simp[zfo]
theorem b1h{n m i j:Nat}(h:j<n):(zfo n m i)[j]?=some (if j<i then List.replicate m [.int .u8 0]else[]):=by unfold zfo;rw[e5n,e8v h];rfl
theorem d4q{n m i:Nat}(h:i<n):(zfo n m i).set i (List.replicate m [.int .u8 0])=zfo n m (i+1):=by
 apply e7s;intro j;rw[e70,b1g];by_cases hj:j<n
 ·rw[b1h hj,b1h hj];by_cases e:i=j
  ·subst e;rw[e6q rfl,e6q hj,e6q (by omega)]
  ·rw[e5s e];by_cases h2:j<i
   ·rw[e6q h2,e6q (by omega)]
   ·rw[e5s h2,e5s (by omega)]
 ·have e:∀i,(zfo n m i)[j]?=none:=λi=>e6n (by rw[b1g];omega);rw[e,e,e5s (by omega)]
theorem c9q(H:a02)(b n m:Nat)(h:a01 H b=some (.row 1 (List.replicate n [.nilslice]))):Two H b 1 (λ_=>0) (λ_=>some m) (zfo n m 0):=by
 have hz:zfo n m 0=List.replicate n []:=by unfold zfo;rw[show(λj:Nat=>if j<0 then List.replicate m [AV.int .u8 0]else[])=λ_=>[]from by funext j;rw[e5s (Nat.not_lt_zero j)],List.map_const',e7n]
 rw[hz];have cP:∀(j:Nat) (f:List (List AV)),(List.replicate n ([]:List (List AV)))[j]?=some f→f=[]:=by
  intro j f hf;rw[e85]at hf;split at hf
  ·cases hf;rfl
  ·cases hf
 refine⟨?_,λj f hf az=>absurd (cP j f hf) az,λi j f g hf _ az=>absurd (cP i f hf) az,λf hf=>by rw[e7q hf];exact FlatR.nil⟩;rw[h]
 congr 2
 unfold a2u;apply e7s;intro j;rw[e6s,e85,e85];split<;>rfl
theorem d4r(n m:Nat)(hm:0<m):(zfo n m n).mapIdx (λj f=>[slF (some m) f])=List.replicate n [.islice (List.replicate m [.int .u8 0]) (some m)]:=by
 apply e7s;intro j;rw[e6s,e85];by_cases h:j<n
 ·rw[b1h h,e6q h,e6q h];obtain⟨q,rfl⟩:∃q,m=q+1:=⟨m-1,by omega⟩
  rfl
 ·rw[e6n (by rw[b1g];omega),e5s h];rfl
theorem d6m(c:Cir)(hc:c.wf){k m:Nat}(ht:Tio c k m)(ord:List Nat)(aS:OrdOf c ord)(ra:Rep)(A:List (Rep×List Nat))(dl:A.length≤1000)(hA:∀a∈A,a.2.length=k∧∀v∈a.2,v≤3) :
 sem L.env Mf 25 [.agg c.enc,sl ra (A.map vlR)] []=some (.tuple [.agg (a6p (sgs k m) (gdC c ord A)),.int .i64 0],[]):=by
 have gW:=λ(d:Bool) (H:a02)=>a6z (d:=d) H c hc ht;have jd:=λ(H:a02) (W:AV) (hW:a30 0 false (a3w (a01 H) 0 12) W=some (sl (some (some A.length)) ((List.replicate A.length ((some (some m),List.replicate m 0):Rep×List Nat)).map vlR)))=>b44 (d:=false) (H:=H) c hc ht (ra:=ra) (rb:=some (some A.length)) (A:=A) (B:=List.replicate A.length (some (some m),List.replicate m 0)) dl (by simp) hA (λa ha=>by rw[e7q ha];exact⟨by simp,λv hv=>by rw[e7q hv];omega⟩) (a1c _ _ _ _ (a12 _ _)) hW;have cz:=λ(d:Bool) (H:a02)=>a89 (d:=d) H c hc;have hO:c.outs≠[]:=by intro e;have:=ht.out;have:=ht.m1;rw[e]at *;simp at *;omega
 have la:=λ(d:Bool) (H:a02) (p:Pat) (hp:PatOk c.nodes p)=>b1l (d:=d) H c hc hO p hp ord aS;have fQ:(kinds c.nodes 0).length=k:=by rw[ht.ins];simp
 have bQ:∀i,(ouA c ord A i).length=m:=λi=>by unfold ouA;rw[a8v,ht.out]
 have b5:=λ(H:a02)=>b8m (d:=false) H c hc ht ra (some (some A.length)) A (ouB c ord A) dl (b64 c ord A).symm hA (λa ha=>by obtain⟨j,hj,rfl⟩:=e7t.1 ha;have bg:=e8y.1 hj;refine⟨bQ j,c1n c ord A (λv hv=>?_)⟩;rw[a5a (z9e bg)]at hv;exact(hA _ (List.getElem_mem bg)).2 v hv);obtain⟨t1,t2,t3,t4,t5,t6⟩:=ht;have hn:=hc.len;have cU:=a3c k m;obtain⟨S,hS⟩:∃S,AV.islice ((sgs k m).map Sgn.row) (some (k+m))=S:=⟨_,rfl⟩
 rw[hS]at gW;obtain⟨V,hV⟩:∃V,a9k (gdC c ord A)=V:=⟨_,rfl⟩
 have j3:refs V=[]:=by rw[←hV];exact a3y _
 have j0:V.storable=true:=by rw[←hV];cases gdC c ord A<;>rfl
 have j4:V.cells=[V]:=by rw[←hV];cases gdC c ord A<;>rfl
 have dK:a6p (sgs k m) (gdC c ord A)=[S,.islice [tmR] (some 1),V]:=by unfold a6p;rw[cU,hS,hV]
 have iF:refs S=[]:=by rw[←hS];rfl
 have iE:S.storable=true:=by rw[←hS];rfl
 have mO:∀m t d,a30 m t d S=some S:=λm t d=>a1c m t d _ iF;have rI:∀m t d,a30 m t d V=some V:=λm t d=>a1c m t d _ j3;have rz:gdC c ord A=d2e A (ouB c ord A):=rfl;rw[←rz,dK]at b5;rw[dK];simp only[Cir.enc]at gW jd cz la b5⊢;have fM:∀π:Nat→Option Nat,a0d π (.row 4 [[sl c.nc (c.nodes.map Nd.enc),sl c.mc (c.names.map a3a),.nilslice,sl c.oc (c.outs.map a0s)]]) = .row 4 [[sl c.nc (c.nodes.map Nd.enc),sl c.mc (c.names.map a3a),.nilslice,sl c.oc (c.outs.map a0s)]]:=λπ=>by simp+decide only[go_sem]
 have fY:a0t (some (.row 4 [[sl c.nc (c.nodes.map Nd.enc),sl c.mc (c.names.map a3a),.nilslice,sl c.oc (c.outs.map a0s)]]))=[]:=by simp+decide only[go_sem]
 have j9:∀π:Nat→Option Nat,a0d π (.row 3 [[.nilslice,.nilslice,.nilslice]]) = .row 3 [[.nilslice,.nilslice,.nilslice]]:=λπ=>by simp+decide only[go_sem]
 have p9:a0t (some (.row 3 [[.nilslice,.nilslice,.nilslice]]))=[]:=by simp+decide only[go_sem]
 have aN:A.length≤1000000000:=by omega
 (refine sv Tryz.f25 ?_;simp only[Tryz.f25,gS])
 (repeat first|simp only[ww]|(apply xa;simp+decide only[go_sem,gW,aN,c10];rfl;kernel_rfl))
 have je:∀(i cb pb b:Nat) (aB:Nat→Nat) (H2:a02),i≤A.length→a01 H2 cb=some (.row 4 [[sl c.nc (c.nodes.map Nd.enc),sl c.mc (c.names.map a3a),.nilslice,sl c.oc (c.outs.map a0s)]])→a01 H2 pb=some (.row 3 [[.nilslice,.nilslice,.nilslice]])→Two H2 b 1 aB (λ_=>some m) (zfo A.length m i)→∀F1:Frm,a0a ((a1l [1,2,4,8,30,31,1000003] F1).map (·.2))=[cb,pb,b]→
  (∀π,b7b π (a1l [1,2,4,8,30,31,1000003] F1)=[(1,sl ra (A.map vlR)),(2,ren π (.ptr cb 0 0)),(4,ren π (.ptr pb 0 0)),(8,ren π (.slice b 0 A.length (some A.length))),(30,.int .i64 A.length),(31,.int .i64 (i:Nat)),(1000003,.junk)])→∃F H,gcD 0 [1,2,4,8,30,31,1000003] F1 H2=some (F,H)∧
  ∃(i':Nat) (aB:Nat→Nat),A.length-i=A.length-i'∧i'≤A.length∧F=[(1,sl ra (A.map vlR)),(2,.ptr 0 0 0),(4,.ptr 1 0 0),(8,.slice 2 0 A.length (some A.length)),(30,.int .i64 A.length),(31,.int .i64 (i':Nat)),(1000003,.junk)]∧a01 H 0=some (.row 4 [[sl c.nc (c.nodes.map Nd.enc),sl c.mc (c.names.map a3a),.nilslice,sl c.oc (c.outs.map a0s)]])∧a01 H 1=some (.row 3 [[.nilslice,.nilslice,.nilslice]])∧Two H 2 1 aB (λ_=>some m) (zfo A.length m i'):=by
  intro i cb pb b aB H2 hi h1 h2 hT F1 mg qe;have jV:cb≠pb:=by intro e;rw[e,h2]at h1;cases h1
  obtain⟨b6,_⟩:=hT.apart h1 (by omega) (by omega);obtain⟨dE,_⟩:=hT.apart h2 (by omega) (by omega);obtain⟨F,H,hg,ml,kH,b',aP,e1,e2,e3,e4⟩:=hT.headX (F:=F1) (keep:=[1,2,4,8,30,31,1000003]) (P:=λF H=>∃(ml kH b':Nat) (aP:Nat→Nat),F=[(1,sl ra (A.map vlR)),(2,.ptr ml 0 0),(4,.ptr kH 0 0),(8,.slice b' 0 A.length (some A.length)),(30,.int .i64 A.length),(31,.int .i64 (i:Nat)),(1000003,.junk)]∧a01 H ml=some (.row 4 [[sl c.nc (c.nodes.map Nd.enc),sl c.mc (c.names.map a3a),.nilslice,sl c.oc (c.outs.map a0s)]])∧a01 H kH=some (.row 3 [[.nilslice,.nilslice,.nilslice]])∧Two H b' 1 aP (λ_=>some m) (zfo A.length m i)) [cb,pb]
   (by intro x hx;simp only[e6v,List.not_mem_nil,or_false]at hx;rcases hx with rfl|rfl;rw[h1];exact fY;rw[h2];exact p9) (by rw[mg];simp) (by rw[mg];simp) (by rw[mg];simp) (by rw[mg];simp) (by rw[b1g];omega) (by
    intro π b' aP H1 hb fv pT;obtain⟨ml,e1,e2⟩:=pT cb (by simp);obtain⟨kH,e3,e4⟩:=pT pb (by simp);refine⟨ml,kH,b',aP,?_,?_,?_,fv⟩
    ·rw[qe];simp+decide only[go_sem,e1,e3,hb]<;>rfl
    ·rw[e2,h1];show some (a0d π _)=_;rw[fM]
    ·rw[e4,h2];show some (a0d π _)=_;rw[j9])
  obtain⟨π,f1,f2,f3,f4⟩:=c7y hg mg (by rw[h1];exact fY) (by rw[h2];exact p9) jV b6 dE;rw[qe]at f1;have f5:F=[(1,sl ra (A.map vlR)),(2,.ptr 0 0 0),(4,.ptr 1 0 0),(8,.slice 2 0 A.length (some A.length)),(30,.int .i64 A.length),(31,.int .i64 (i:Nat)),(1000003,.junk)]:=by rw[f1];simp+decide only[go_sem,f2,f3,f4]<;>rfl
  have f6:=e1.symm.trans f5;simp only[List.cons.injEq,Prod.mk.injEq,AV.ptr.injEq,AV.slice.injEq,true_and,and_true]at f6;obtain⟨rfl,rfl,rfl⟩:=f6;exact⟨F,H,hg,i,aP,rfl,hi,e1,e2,e3,e4⟩
 refine c56 kp25_0 rfl 3 rfl (λN F H=>∃(i:Nat) (aB:Nat→Nat),N=A.length-i∧i≤A.length∧F=[(1,sl ra (A.map vlR)),(2,.ptr 0 0 0),(4,.ptr 1 0 0),(8,.slice 2 0 A.length (some A.length)),(30,.int .i64 A.length),(31,.int .i64 (i:Nat)),(1000003,.junk)]∧a01 H 0=some (.row 4 [[sl c.nc (c.nodes.map Nd.enc),sl c.mc (c.names.map a3a),.nilslice,sl c.oc (c.outs.map a0s)]])∧a01 H 1=some (.row 3 [[.nilslice,.nilslice,.nilslice]])∧Two H 2 1 aB (λ_=>some m) (zfo A.length m i)) (A.length-0) ?_ ?_
 ·refine je 0 0 1 2 (λ_=>0) _ (e5q _) rfl rfl (c9q _ _ _ _ rfl) _ (by simp+decide only[go_sem]<;>rfl) (λπ=>by simp+decide only[go_sem]<;>rfl)
 ·rintro N F H ⟨i,aB,rfl,hi,rfl,b6,dE,hT⟩
  by_cases ak:i<A.length
  ·have d1:(i:Int)<A.length:=by omega
   have bt:=wI1 (n:=i) (by omega);have b8:=a1e b6;have bV:=a1e dE;have jZ:=a1e hT.top;have eO:=hT.top;have a8:=a71 (aB:=aB) (cp:=λ_=>some m) (b1h (n:=A.length) (m:=m) (i:=i) ak);rw[e5s (Nat.lt_irrefl i)]at a8;simp only[slV]at a8;have eU:(a2u aB (λ_=>some m) (zfo A.length m i)).length=A.length:=by rw[a3p,b1g]
   have eT:m≤1000000000:=by omega
   have mU:H.length≠2:=by omega
   have rT:(2<H.length)=True:=by simpa using jZ
   (repeat first|simp only[ww]|(apply xa;simp+decide only[go_sem,d1,t4,ak,b6,dE,eO,a8,eU,eT,bt,b8,bV,jZ,a91,a90,c5w,b5t,c10,e7y,b6a,b69];rfl;kernel_rfl))
   have qu:List.replicate m [AV.int .u8 0]≠[]:=by intro e;have:=congrArg List.length e;simp at this;omega
   have qt:FlatR (List.replicate m [AV.int .u8 0]):=λr hr=>by rw[e7q hr];rfl
   have fv:Two (H.set 2 (some (.row 1 ((a2u aB (λ_=>some m) (zfo A.length m i)).set i [.slice H.length 0 m (some m)])))++[some (.row 1 (List.replicate m [.int .u8 0]))]) 2 1 (λj=>if j=i then H.length else aB j) (λ_=>some m) (zfo A.length m (i+1)):=by
    rw[←d4q ak];refine hT.put (by rw[b1h ak,e5s (Nat.lt_irrefl i)]) qu qt (e6o _) ?_ ?_ ?_
    ·rw[a4f jZ,e6q rfl,List.length_replicate]
    ·have:=b2o (H:=H) (L:=[some (AObj.row 1 (List.replicate m [AV.int .u8 0]))]) (a:=2) (o:=some (.row 1 ((a2u aB (λ_=>some m) (zfo A.length m i)).set i [.slice H.length 0 m (some m)]))) 0;rw[f03]at this;rw[this];rfl
    ·intro j g bc hg az;obtain⟨g1,g2⟩:=hT.sub j g hg az;rw[a4f (a1e g1),e5s (f05 g2)]
   exact a2e (A.length-(i+1)) (by omega) (je (i+1) 0 1 2 _ _ ak (by rw[a4f b8,e5s (by omega),b6]) (by rw[a4f bV,e5s (by omega),dE]) fv _ (by simp+decide only[go_sem]<;>rfl) (λπ=>by simp+decide only[go_sem]<;>rfl))
  ·obtain rfl:i=A.length:=by omega
   have d1:¬(A.length:Int)<A.length:=by omega
   (repeat first|simp only[ww]|(apply xa;simp+decide only[go_sem,d1,c10];rfl;kernel_rfl))
   -- frozen
   obtain⟨oE,rF⟩:=hT.apart b6 (by omega) (by omega);obtain⟨sy,rE⟩:=hT.apart dE (by omega) (by omega);have n4:∀j f,(zfo A.length m A.length)[j]?=some f→f≠[]→3≤aB j:=λj f h1 h2=>by have e1:=rF j f h1 h2;have e2:=rE j f h1 h2;have e3:=(hT.sub j f h1 h2).2;omega
   have jN:=hT.frzT 3 n4;rw[d4r _ _ t5]at jN;have rS:b6o 3 H=[some (.row 4 [[sl c.nc (c.nodes.map Nd.enc),sl c.mc (c.names.map a3a),.nilslice,sl c.oc (c.outs.map a0s)]]),some (.row 3 [[.nilslice,.nilslice,.nilslice]]),some (.row 1 (List.replicate A.length [.islice (List.replicate m [.int .u8 0]) (some m)]))]:=by have kv:FlatR [[sl c.nc (c.nodes.map Nd.enc),sl c.mc (c.names.map a3a),.nilslice,sl c.oc (c.outs.map a0s)]]:=FlatR.cons (a2v c) FlatR.nil;have bR:FlatR [[AV.nilslice,AV.nilslice,AV.nilslice]]:=FlatR.cons rfl FlatR.nil;unfold b6o;rw[c2x b6 dE hT.top];simp only[e4r,e5j,e5p,b32,a5b kv,a5b bR,jN]
   rw[d6p];simp only[e5r,e7l,rS];simp+decide only[go_sem];obtain⟨z,hz⟩:∃z,[AV.islice (List.replicate m [AV.int .u8 0]) (some m)]=z:=⟨_,rfl⟩
   have bH:a0a z=[]:=by rw[←hz];rfl
   have dq:z=vlR (some (some m),List.replicate m 0):=by rw[←hz];simp only[vlR,a67,List.map_replicate];rfl
   rw[hz];have n6:=λ(X Y:Option AObj)=>jd [X,Y,some (.row 1 (List.replicate A.length z))] (.slice 2 0 A.length (some A.length)) (by
    have h4:((List.replicate A.length z).drop 0).take A.length=List.replicate A.length z:=by rw[e86];exact e5o (by simp)
    have h5:=a13 (m:=0) (d:=a3w (a01 [X,Y,some (.row 1 (List.replicate A.length z))]) 0 11) (aa:=List.replicate A.length z) (λr hr=>by rw[e7q hr];exact bH);have h6:a01 [X,Y,some (.row 1 (List.replicate A.length z))] 2=some (.row 1 (List.replicate A.length z)):=rfl;rw[a67,List.map_replicate,←dq];simp+decide only[a5x,a4w,h6,a8q,a0b,h4,h5,List.length_replicate,e7l,e6o,e9y,decide_false,e6m,e6w])
   obtain⟨f,hf⟩:∃f:Nat→List AV,f=λj=>[a3m (ouA c ord A j)]:=⟨_,rfl⟩
   have dY:∀j,a0a (f j)=[]:=λj=>by rw[hf];simp only[a06,a2j,a0r,e4t]
   have oy:(a6t c).enc=[sl (a6t c).ic ((a6t c).ins.map u8R),sl (stR c ord A 0) ((stA c ord A 0).map u8R)]:=rfl;rw[oy]at cz;obtain⟨BI,mX⟩:∃BI,sl (a6t c).ic ((a6t c).ins.map u8R)=BI:=⟨_,rfl⟩
   have kD:refs BI=[]:=by rw[←mX];exact a12 _ _
   have mh:∀π,ren π BI=BI:=λπ=>a1d π _ kD;have qf:BI.storable=true:=by rw[←mX];rfl
   have qg:BI.cells=[BI]:=by rw[←mX];rfl
   rw[mX]at cz
   (repeat first|simp only[ww]|(apply xa;simp+decide only[go_sem,n6,cz,qf,qg];rfl;kernel_rfl))
   refine b7g kp25_2 rfl 2 rfl (σ:=Nat) (λi=>[(1,sl ra (A.map vlR)),(2,.ptr 0 0 0),(4,.ptr 1 0 0),(8,.slice 2 0 A.length (some A.length)),(11,.ptr 3 0 0),(52,sl ra (A.map vlR)),(53,.int .i64 A.length),(54,.int .i64 i),(1000002,.junk)])
    (λi=>[some (.row 4 [[sl c.nc (c.nodes.map Nd.enc),sl c.mc (c.names.map a3a),.nilslice,sl c.oc (c.outs.map a0s)]]),some (.row 3 [[.nilslice,.nilslice,.nilslice]]),some (.row 1 (upT f z A.length i)),some (.row 2 [[BI,sl (stR c ord A i) ((stA c ord A i).map u8R)]])]) (λi=>A.length-i) (λi=>i≤A.length) 0 ?_ (e5q _) ?_
   ·rw[←c9w (f:=f)];have h1:=a0c (a2b (f:=f) (z:=z) (n:=A.length) (i:=0) bH dY);have h2:=λπ=>a08 π (a2b (f:=f) (z:=z) (n:=A.length) (i:=0) bH dY)
    (simp+decide only[go_sem,a03,a00,h1,h2,kD,mh,c10]<;>rfl)<;>rfl
   ·intro i hi;by_cases ak:i<A.length
    ·have d1:(i:Int)<A.length:=by omega
     have bt:=wI1 (n:=i) (by omega);obtain⟨a,ha⟩:∃a,A[i]?=some a:=⟨_,z9e ak⟩
     obtain⟨a1,a2⟩:=hA a (e12 ha);have fW:vlR a=[sl a.1 (a.2.map u8R)]:=rfl;have hp:PatOk c.nodes ⟨a.1,a.2,stR c ord A i,stA c ord A i⟩:=⟨by rw[fQ];exact a1,b9g c ord A i,a2,λv hv=>by have:=c1b c ord A i v hv;omega⟩
     have hr:=λ(d:Bool) (H:a02)=>la d H _ hp;have e1:a1p c.outs (gN c ord a.2 (stA c ord A i))=ouA c ord A i:=by unfold ouA;rw[a5a ha]
     have e2:a1r c.nodes (gN c ord a.2 (stA c ord A i))=stA c ord A (i+1):=by show _=a1r c.nodes (gN c ord (inA A i) (stA c ord A i));rw[a5a ha]
     simp only[Pat.enc,e1,e2]at hr;have e3:a3m (stA c ord A (i+1))=sl (stR c ord A (i+1)) ((stA c ord A (i+1)).map u8R):=a9a _;have jP:f i=[a3m (ouA c ord A i)]:=by rw[hf]
     have aC:=b5p (f:=f) (z:=z) ak;have cA:=c5c (f:=f) (z:=z) ak;have dM:=a64 (f:=f) (z:=z) (n:=A.length) (i:=i);rw[jP]at aC;have h1:=a0c (a2b (f:=f) (z:=z) (n:=A.length) (i:=i+1) bH dY);have h2:=λπ=>a08 π (a2b (f:=f) (z:=z) (n:=A.length) (i:=i+1) bH dY);unfold b9o at hr;rw[e3]at hr;have c1:=a52 (ouA c ord A i);have c2:=c0q (ouA c ord A i);have c3:=c0p (ouA c ord A i);have ff:z.length=1:=by rw[←hz];rfl
     have na:z.drop 1=[]:=List.drop_of_length_le (by omega);generalize a3m (ouA c ord A i)=CO at hr aC c1 c2 c3;generalize(gN c ord a.2 (stA c ord A i)).map u8R=GN at hr
     (repeat first|simp only[ww]|(apply xa;simp+decide only[go_sem,d1,ak,ha,fW,bt,hr,cA,dM,aC,ff,na,qf,qg,c1,c2,c3,c10];rfl;kernel_rfl))
     refine a28 (i+1) ?_ (by omega) (by omega)
     (simp+decide only[go_sem,a03,a00,h1,h2,kD,mh,c10]<;>rfl)<;>rfl
    ·obtain rfl:i=A.length:=by omega
     have d1:¬(A.length:Int)<A.length:=by omega
     have iS:upT f z A.length A.length=(ouB c ord A).map vlR:=by rw[b5q,hf];unfold ouB;rw[e9g];exact e7k λj _=>by rw[a9a];rfl
     have gU:=a64 (f:=f) (z:=z) (n:=A.length) (i:=A.length);rw[iS]at gU;rw[iS];have kU:=d6u (ouB c ord A);simp only[a67]at b5;generalize(ouB c ord A).map vlR=U at gU kU b5;have kv:FlatR [[sl c.nc (c.nodes.map Nd.enc),sl c.mc (c.names.map a3a),.nilslice,sl c.oc (c.outs.map a0s)]]:=FlatR.cons (a2v c) FlatR.nil;have bR:FlatR [[AV.nilslice,AV.nilslice,AV.nilslice]]:=FlatR.cons rfl FlatR.nil;have mU:∀Y:Option AObj,b6o 2 [some (.row 4 [[sl c.nc (c.nodes.map Nd.enc),sl c.mc (c.names.map a3a),.nilslice,sl c.oc (c.outs.map a0s)]]),some (.row 3 [[.nilslice,.nilslice,.nilslice]]),some (.row 1 U),Y]=[some (.row 4 [[sl c.nc (c.nodes.map Nd.enc),sl c.mc (c.names.map a3a),.nilslice,sl c.oc (c.outs.map a0s)]]),some (.row 3 [[.nilslice,.nilslice,.nilslice]])]:=λY=>by unfold b6o;simp only[List.take_succ_cons,e71,e4r,e5j,e5p,b32,a5b kv,a5b bR]
     have dc:=λm d=>a13 (m:=m) (d:=d) kU;have du:U.take A.length=U:=e5o (by omega)
     (repeat first|simp only[ww]|(apply xa;simp+decide only[go_sem,d1];rfl;kernel_rfl))
     rw[d6p];simp only[e7l,mU];simp+decide only[go_sem,dc,du,gU]
     (repeat first|simp only[ww]|(apply xa;simp+decide only[go_sem,b5,iE,j0,j4];rfl;kernel_rfl))
     (apply fqb;simp+decide only[go_sem,mO,rI]<;>rfl)
theorem c7v{d:Bool}(H:a02)(c:Cir)(hc:c.wf){k m:Nat}(ht:Tio c k m)(ord:List Nat)(aS:OrdOf c ord)(ra:Rep)(A:List (Rep×List Nat))(dl:A.length≤1000)(hA:∀a∈A,a.2.length=k∧∀v∈a.2,v≤3) :
 a09 L.env d (sem L.env Mf) (.func (.func 25) [] []) [.agg c.enc,sl ra (A.map vlR)] H=some (.tuple [.agg (a6p (sgs k m) (gdC c ord A)),.int .i64 0],H,[]):=
 a04 (by kernel_rfl) (by kernel_rfl) rfl (by simp only[e5m,e4t,a06,a12,a0r,a0z];exact a2v c) (d6m c hc ht ord aS ra A dl hA) (by simp only[a9r,a06,a0z,a4d,a0r,a8u,e4t])
theorem c5l(s:Sgn)(h:b7a s.nm)(hd:s.dir≤1):sem L.env Mf 47 [.agg s.row] []=some (.bool true,[]):=by
 have hn:=λ(d:Bool) (H:a02)=>b4f (d:=d) h H;have c1:(s.dir:Int)≤1:=by omega
 simp only[Sgn.row]
 (refine sv Tryz.f47 ?_;simp only[Tryz.f47,gS])
 (repeat first|simp only[ww]|(apply xa;simp+decide only[go_sem,hn,c1];rfl;kernel_rfl))
 (apply fqb;simp+decide only[go_sem]<;>rfl)
theorem b9c{d:Bool}(H:a02)(s:Sgn)(h:b7a s.nm)(hd:s.dir≤1):a09 L.env d (sem L.env Mf) (.func (.func 47) [] []) [.agg s.row] H=some (.bool true,H,[]):=a04 (by kernel_rfl) (by kernel_rfl) rfl rfl (c5l s h hd) rfl
theorem b99{d:Bool}(H:a02):a09 L.env d (sem L.env Mf) (.func (.func 48) [] []) [.agg tmR] H=some (.bool true,H,[]):=a04 (by kernel_rfl) (by kernel_rfl) rfl rfl (a0i (E:=L.env) a0h 60 (by kernel_rfl)) rfl
def c9j(dir:Nat)(b:UInt8):Prop:=(dir=0∧(b=48∨b=49∨b=88))∨(dir=1∧(b=76∨b=72∨b=88))
theorem e5b{b:UInt8}(h:b=48∨b=49∨b=88):∃n:Nat,sem L.env Mf 95 [.str [48,49,88,80],.int .u8 b.toNat] []=some (.int .i64 n,[]):=by
 rcases h with rfl|rfl|rfl
 ·exact⟨0,a0i (E:=L.env) a0h 60 (by kernel_rfl)⟩
 ·exact⟨1,a0i (E:=L.env) a0h 60 (by kernel_rfl)⟩
 ·exact⟨2,a0i (E:=L.env) a0h 60 (by kernel_rfl)⟩
theorem e0s{b:UInt8}(h:b=76∨b=72∨b=88):∃n:Nat,sem L.env Mf 95 [.str [76,72,88],.int .u8 b.toNat] []=some (.int .i64 n,[]):=by
 rcases h with rfl|rfl|rfl
 ·exact⟨0,a0i (E:=L.env) a0h 60 (by kernel_rfl)⟩
 ·exact⟨1,a0i (E:=L.env) a0h 60 (by kernel_rfl)⟩
 ·exact⟨2,a0i (E:=L.env) a0h 60 (by kernel_rfl)⟩
structure VecOk(sg:List Sgn)(s:List UInt8):Prop where
 len:s.length=sg.length
 cell:∀(i:Nat) (g:Sgn) (b:UInt8),sg[i]?=some g→s[i]?=some b→c9j g.dir b
theorem c58(sg:List Sgn)(vs:List (List UInt8))(s:List UInt8)(hs:VecOk sg s)(hl:sg.length≤1000):sem L.env Mf 49 [.agg (vcR s),.agg (a6p sg vs)] []=some (.bool true,[]):=by
 obtain⟨T,hT⟩:∃T,a9k vs=T:=⟨_,rfl⟩
 have pW:refs T=[]:=by rw[←hT];exact a3y _
 have kB:T.storable=true:=by rw[←hT];cases vs<;>rfl
 have dK:a6p sg vs=[.islice (sg.map Sgn.row) (some sg.length),.islice [tmR] (some 1),T]:=by unfold a6p;rw[hT]
 rw[dK];have cU:=hs.len;simp only[vcR]
 (refine sv Tryz.f49 ?_;simp only[Tryz.f49,gS])
 (repeat first|simp only[ww]|(apply xa;simp+decide only[go_sem,kB,cU,c10];rfl;kernel_rfl))
 refine a0m (σ:=Nat) kp49_0 (λi=>[(2,.ptr 0 0 0),(39,.islice (sg.map Sgn.row) (some sg.length)),(40,.int .i64 sg.length),(41,.int .i64 i)])
  (λi=>[some (.row 3 [[.int .i64 0,.str s,.int .i64 1]])]) (λi=>sg.length-i) (λi=>i≤sg.length) 0 ?_ (e5q _) ?_
 ·(simp+decide only[go_sem,a03,a00,c10]<;>rfl)<;>rfl
 ·intro i hi;by_cases ak:i<sg.length
  ·obtain⟨g,hg⟩:∃g,sg[i]?=some g:=⟨_,z9e ak⟩
   obtain⟨b,hb⟩:∃b,s[i]?=some b:=⟨_,z9e (by omega)⟩
   have d1:(i:Int)<sg.length:=by omega
   have bt:=wI1 (n:=i) (by omega);have ja:g.row=[.str g.nm,.int .u8 g.dir]:=rfl;rcases hs.cell i g b hg hb with ⟨hd,hc⟩|⟨hd,hc⟩
   ·obtain⟨n,hn⟩:=e5b hc;have fR:=λ(d:Bool) (H:a02)=>a04 (E:=L.env) (ah:=d) (call:=sem L.env Mf) (g:=95) (fs:=[]) (cs:=[]) (ar:=[.str [48,49,88,80],.int .u8 b.toNat]) (H:=H) (by kernel_rfl) (by kernel_rfl) rfl rfl hn rfl;have e1:¬(g.dir:Int)=1:=by omega
    have e2:¬(n:Int)<0:=by omega
    (repeat first|simp only[ww]|(apply xa;simp+decide only[go_sem,d1,ak,hg,ja,hb,fR,e1,e2,bt,cU,c10];rfl;kernel_rfl))
    refine a28 (i+1) ?_ (by omega) (by omega)
    (simp+decide only[go_sem,a03,a00]<;>rfl)<;>rfl
   ·obtain⟨n,hn⟩:=e0s hc;have fR:=λ(d:Bool) (H:a02)=>a04 (E:=L.env) (ah:=d) (call:=sem L.env Mf) (g:=95) (fs:=[]) (cs:=[]) (ar:=[.str [76,72,88],.int .u8 b.toNat]) (H:=H) (by kernel_rfl) (by kernel_rfl) rfl rfl hn rfl;have e1:(g.dir:Int)=1:=by omega
    have e2:¬(n:Int)<0:=by omega
    (repeat first|simp only[ww]|(apply xa;simp+decide only[go_sem,d1,ak,hg,ja,hb,fR,e1,e2,bt,cU,c10];rfl;kernel_rfl))
    refine a28 (i+1) ?_ (by omega) (by omega)
    (simp+decide only[go_sem,a03,a00]<;>rfl)<;>rfl
  ·obtain rfl:i=sg.length:=by omega
   have d1:¬(sg.length:Int)<sg.length:=by omega
   (repeat first|simp only[ww]|(apply xa;simp+decide only[go_sem,d1];rfl;kernel_rfl))
   (apply fqb;simp+decide only[go_sem]<;>rfl)
theorem b95{d:Bool}(H:a02)(sg:List Sgn)(vs:List (List UInt8))(s:List UInt8)(hs:VecOk sg s)(hl:sg.length≤1000):a09 L.env d (sem L.env Mf) (.func (.func 49) [] []) [.agg (vcR s),.agg (a6p sg vs)] H=some (.bool true,H,[]):=a04 (by kernel_rfl) (by kernel_rfl) rfl (by simp only[e5m,e4t,a06,a0z,a4d,a0r];rfl) (c58 sg vs s hs hl) rfl
/- names that differ -/
def a9m(l:List (List UInt8)):List (List AV):=l.map λs=>[.str s]
theorem d4z:sem L.env Mf 50 [.islice (a9m [[116]]) none] []=some (.bool false,[]):=a0i (E:=L.env) a0h 60 (by kernel_rfl)
set_option maxRecDepth 1000000 in
theorem c9z(k m:Nat)(k1:1≤k)(k4:k≤4)(m1:1≤m)(m4:m≤4):sem L.env Mf 50 [.islice (a9m (nms k m)) none] []=some (.bool false,[]):=by
 have hk:k=1∨k=2∨k=3∨k=4:=by omega
 have hm:m=1∨m=2∨m=3∨m=4:=by omega
 rcases hk with rfl|rfl|rfl|rfl<;>rcases hm with rfl|rfl|rfl|rfl<;>exact a0i (E:=L.env) a0h 60 (by kernel_rfl)
theorem b6r(l:List (List UInt8)):FlatR (a9m l):=FlatR.map λ_=>rfl
theorem b43{d:Bool}{H:a02}{b n:Nat}{l:List (List UInt8)}(hn:n=l.length)(hb:a01 H b=some (.row 1 (a9m l)))(h:sem L.env Mf 50 [.islice (a9m l) none] []=some (.bool false,[])) :
 a09 L.env d (sem L.env Mf) (.func (.func 50) [] []) [.slice b 0 n none] H=some (.bool false,H,List.range H.length):=by
 subst hn;refine a7x (args:=[.slice b 0 l.length none]) (aq:=[.islice (a9m l) none]) (by kernel_rfl) (by kernel_rfl) rfl ?_ (v:=.bool false) (H1:=[]) h rfl rfl;have h2:=a13 (m:=0) (d:=a3w (a01 H) 0 11) (b6r l);have h4:((a9m l).drop 0).take l.length=a9m l:=by rw[e86];exact e5o (by simp[a9m])
 have h5:(a9m l).length=l.length:=by simp[a9m]
 have oB:decide (b<0)=false:=e9e (Nat.not_lt_zero b);simp+decide only[a5c,b6n,a5x,oB,a4w,hb,a8q,a0b,h4,h2,h5,e7l,e6o,e9y,decide_false,e6m,e6w]
theorem d2t(k m:Nat)(k1:1≤k)(k4:k≤4)(m1:1≤m)(m4:m≤4)(vs:List (List UInt8))(dC:vs.length≤1000)(em:∀s∈vs,VecOk (sgs k m) s):sem L.env Mf 18 [.agg (a6p (sgs k m) vs)] []=some (.int .i64 0,[]):=by
 obtain⟨T,hT⟩:∃T,a9k vs=T:=⟨_,rfl⟩
 have pW:refs T=[]:=by rw[←hT];exact a3y _
 have kB:T.storable=true:=by rw[←hT];cases vs<;>rfl
 have rK:∀π,ren π T=T:=λπ=>a1d π _ pW;have gJ:∃r,T=sl r (vs.map vcR):=by
  rw[←hT];cases vs with
  |nil=>exact⟨none,rfl⟩
  |cons v r=>exact⟨some (some (r.length+1)),rfl⟩
 obtain⟨tr,l9⟩:=gJ;have cU:=a3c k m;have jM:=c1c k4 m4;have pa:=c9z k m k1 k4 m1 m4;have om:∀s∈sgs k m,s.dir≤1:=by intro s hs;unfold sgs at hs;rcases e7h.1 hs with h|h<;>(obtain⟨i,_,rfl⟩:=e7t.1 h;simp[sgI,sgO])
 have dK:a6p (sgs k m) vs=[.islice ((sgs k m).map Sgn.row) (some (sgs k m).length),.islice [tmR] (some 1),T]:=by unfold a6p;rw[hT]
 have fO:=λ(d:Bool) (H:a02) (s:List UInt8) (hs:s∈vs)=>b95 (d:=d) H (sgs k m) vs s (em s hs) (by omega);have pd:=λ(d:Bool) (H:a02) (s:Sgn) (hs:s∈sgs k m)=>b9c (d:=d) H s (jM s hs) (om s hs);have ke:=λ(d:Bool) (H:a02)=>b99 (d:=d) H;have fh:∀i g,(sgs k m)[i]?=some g→(nms k m).take (i+1)=(nms k m).take i++[g.nm]:=λi g h=>a1a (by unfold nms;rw[e5n,h];rfl);have cY:(nms k m).length=k+m:=by unfold nms;rw[c10,cU]
 rw[dK]at fO⊢;generalize nms k m=NM at pa fh cY;generalize sgs k m=G at cU pd fh dK fO;have eK:(G.map Sgn.row).length=k+m:=by rw[c10,cU]
 have gK:∀π:Nat→Option Nat,a0d π (.row 3 [[.islice (G.map Sgn.row) (some G.length),.islice [tmR] (some 1),T]]) = .row 3 [[.islice (G.map Sgn.row) (some G.length),.islice [tmR] (some 1),T]]:=λπ=>by simp+decide only[go_sem,rK]
 rw[cU];rw[cU]at fO gK;have c1:¬(256:Int)<(k+m:Nat):=by omega
 have c2:¬(65536:Int)<vs.length:=by omega
 have dD:∀(h:FHeap),True:=λ_=>trivial;subst l9;simp only[tmR]at ke⊢
 (refine sv Tryz.f18 ?_;simp only[Tryz.f18,gS])
 (repeat first|simp only[ww]|(apply xa;simp+decide only[go_sem,c1,c2,eK,kB,c10];rfl;kernel_rfl))
 refine a0m (σ:=Nat) kp18_0 (λi=>[(1,.ptr 0 0 0),(3,grV 1 (a9m (NM.take i))),(4,.nilslice),(29,.islice (G.map Sgn.row) (some (k+m))),(30,.int .i64 (k+m:Nat)),(31,.int .i64 i)])
  (λi=>some (.row 3 [[.islice (G.map Sgn.row) (some (k+m)),.islice [[.str [116],.int .i64 100,.int .i64 0,.int .i64 30,.int .i64 60,.int .i64 90]] (some 1),sl tr (vs.map vcR)]])::grH 1 (a9m (NM.take i))) (λi=>k+m-i) (λi=>i≤k+m) 0 ?_ (e5q _) ?_
 ·rw[e71]
  (simp+decide only[go_sem,a03,a00,a9m,e5j,a17,a18,eK,c10]<;>rfl)<;>rfl
 ·intro i hi;by_cases ak:i<k+m
  ·obtain⟨g,hg⟩:∃g,G[i]?=some g:=⟨_,z9e (by omega)⟩
   have d1:(i:Int)<(k+m:Nat):=by omega
   have bt:=wI1 (n:=i) (by omega);have ja:g.row=[.str g.nm,.int .u8 g.dir]:=rfl;have ij:=λ(d:Bool) (H:a02)=>pd d H g (e12 hg);rw[ja]at ij;have pF:i<G.length:=by omega
   have gp:=fh i g hg;have lw:(NM.take i).length=i:=by rw[e7u];omega
   cases bZ:NM.take i with
   |nil=>
    (repeat first|simp only[ww]|(apply xa;simp+decide only[go_sem,d1,ak,pF,hg,ja,ij,bt,eK,a9m,e5j,a17,a18,c10];rfl;kernel_rfl))
    refine a28 (i+1) ?_ (by omega) (by omega);rw[gp,bZ]
    (simp+decide only[go_sem,a03,a00,a9m,e5m,e4r,e5j,a0k,a0l,e5r,eK,c10]<;>rfl)<;>rfl
   |cons v r=>
    rw[bZ]at lw;have aN:r.length+1+1≤1000000000:=by simp only[e5l]at lw;omega
    have g9:=b6r r;have h3:=a0c g9;have h4:=λπ=>a08 π g9;unfold a9m at h3 h4
    (repeat first|simp only[ww]|(apply xa;simp+decide only[go_sem,d1,ak,pF,hg,ja,ij,bt,eK,a9m,e4r,a0k,a0l,aN,c10];rfl;kernel_rfl))
    refine a28 (i+1) ?_ (by omega) (by omega);rw[gp,bZ]
    (simp+decide only[go_sem,a03,a00,a9m,e7p,e4r,e6r,e5j,a0k,a0l,e6k,e5l,e5r,c10,h3,h4,e4t,eK]<;>rfl)<;>rfl
  ·obtain rfl:i=k+m:=by omega
   have d1:¬((k+m:Nat):Int)<(k+m:Nat):=by omega
   rw[e5o (by omega)];have az:a9m NM≠[]:=by intro e;have:=congrArg List.length e;simp[a9m]at this;rw[this]at cY;simp at cY;omega
   have qH:(a9m NM).length=k+m:=by simp[a9m,cY]
   rw[a6r 1 az,a6s 1 az,qH];have pI:=b6r NM;have h1:=a0c pI;have h2:=λπ=>a08 π pI;have kW:=λ(d:Bool) (X:Option AObj) (R:a02)=>b43 (d:=d) (H:=X::some (.row 1 (a9m NM))::R) (b:=1) cY.symm rfl pa;have kV:=λ(d:Bool) (X Y:Option AObj) (R:a02)=>b43 (d:=d) (H:=X::Y::some (.row 1 (a9m [[116]]))::R) (b:=2) (n:=1) rfl rfl d4z;simp only[a9m,e4r,e5j]at kV;generalize a9m NM=SN at h1 h2 kW
   (repeat first|simp only[ww]|(apply xa;simp+decide only[go_sem,d1,kB,c10];rfl;kernel_rfl))
   refine a0m (σ:=Nat) kp18_2 (λi=>match i with|0=>[(1,.ptr 0 0 0),(3,.slice 1 0 (k+m) none),(4,.nilslice),(45,.islice [[.str [116],.int .i64 100,.int .i64 0,.int .i64 30,.int .i64 60,.int .i64 90]] (some 1)),(46,.int .i64 1),(47,.int .i64 0)]|_=>[(1,.ptr 0 0 0),(3,.slice 1 0 (k+m) none),(4,.slice 2 0 1 none),(45,.islice [[.str [116],.int .i64 100,.int .i64 0,.int .i64 30,.int .i64 60,.int .i64 90]] (some 1)),(46,.int .i64 1),(47,.int .i64 1)])
    (λi=>match i with|0=>[some (.row 3 [[.islice (G.map Sgn.row) (some (k+m)),.islice [[.str [116],.int .i64 100,.int .i64 0,.int .i64 30,.int .i64 60,.int .i64 90]] (some 1),sl tr (vs.map vcR)]]),some (.row 1 SN)]|_=>[some (.row 3 [[.islice (G.map Sgn.row) (some (k+m)),.islice [[.str [116],.int .i64 100,.int .i64 0,.int .i64 30,.int .i64 60,.int .i64 90]] (some 1),sl tr (vs.map vcR)]]),some (.row 1 SN),some (.row 1 [[.str [116]]])]) (λi=>1-i) (λi=>i≤1) 0 ?_ (e5q _) ?_
   ·(simp+decide only[go_sem,a03,a00,h1,h2,c10]<;>rfl)<;>rfl
   ·intro i hi
    match i,hi with
    |0,_=>
     (repeat first|simp only[ww]|(apply xa;simp+decide only[go_sem,ke,c10];rfl;kernel_rfl))
     refine a28 1 ?_ (by omega) (by omega)
     (simp+decide only[go_sem,a03,a00,h1,h2,c10]<;>rfl)<;>rfl
    |1,_=>
     (repeat first|simp only[ww]|(apply xa;simp+decide only[go_sem,kB,c10];rfl;kernel_rfl))
     refine a0m (σ:=Nat) kp18_4 (λi=>[(1,.ptr 0 0 0),(3,.slice 1 0 (k+m) none),(4,.slice 2 0 1 none),(9,.int .i64 i),(61,sl tr (vs.map vcR)),(62,.int .i64 vs.length),(63,.int .i64 i)])
      (λi=>[some (.row 3 [[.islice (G.map Sgn.row) (some (k+m)),.islice [[.str [116],.int .i64 100,.int .i64 0,.int .i64 30,.int .i64 60,.int .i64 90]] (some 1),sl tr (vs.map vcR)]]),some (.row 1 SN),some (.row 1 [[.str [116]]])]) (λi=>vs.length-i) (λi=>i≤vs.length) 0 ?_ (e5q _) ?_
     ·(simp+decide only[go_sem,a03,a00,h1,h2,c10]<;>rfl)<;>rfl
     ·intro i hi;by_cases ak:i<vs.length
      ·obtain⟨s,hs⟩:∃s,vs[i]?=some s:=⟨_,z9e ak⟩
       have d1:(i:Int)<vs.length:=by omega
       have bt:=wI1 (n:=i) (by omega);have eH:vcR s=[.int .i64 0,.str s,.int .i64 1]:=rfl;have mz:=λ(d:Bool) (H:a02)=>fO d H s (e12 hs);simp only[eH,tmR]at mz;have fP:¬(1000001:Int)<(i+1:Nat):=by omega
       (repeat first|simp only[ww]|(apply xa;simp+decide only[go_sem,d1,ak,hs,eH,mz,bt,fP,e9z,kB,c10];rfl;kernel_rfl))
       refine a28 (i+1) ?_ (by omega) (by omega)
       (simp+decide only[go_sem,a03,a00,h1,h2,c10]<;>rfl)<;>rfl
      ·obtain rfl:i=vs.length:=by omega
       have d1:¬(vs.length:Int)<vs.length:=by omega
       have d2:¬(1000000:Int)<vs.length:=by omega
       (repeat first|simp only[ww]|(apply xa;simp+decide only[go_sem,d1,kW,kV,d2];rfl;kernel_rfl))
       (apply fqb;simp+decide only[go_sem]<;>rfl)
section
variable {k m:Nat}(k1:1≤k)(k4:k≤4)(m1:1≤m)(m4:m≤4){vs:List (List UInt8)}(dC:vs.length≤1000)(em:∀s∈vs,VecOk (sgs k m) s)
include k1 k4 m1 m4 dC em
theorem c4k{d:Bool}(H:a02):a09 L.env d (sem L.env Mf) (.func (.func 18) [] []) [.agg (a6p (sgs k m) vs)] H=some (.int .i64 0,H,[]):=a04 (by kernel_rfl) (by kernel_rfl) rfl (by simp only[e5m,e4t,a06,a0z,a4d,a0r]) (d2t k m k1 k4 m1 m4 vs dC em) rfl
theorem c8j:sem L.env Mf 65 [.agg (a6p (sgs k m) vs)] []=some (.tuple [.int .i64 vs.length,.int .i64 0],[]):=by
 have bX:=λ(d:Bool) (H:a02)=>c4k (d:=d) k1 k4 m1 m4 dC em H;obtain⟨T,hT⟩:∃T,a9k vs=T:=⟨_,rfl⟩
 have gJ:∃r,T=sl r (vs.map vcR):=by
  rw[←hT];cases vs with
  |nil=>exact⟨none,rfl⟩
  |cons v r=>exact⟨some (some (r.length+1)),rfl⟩
 obtain⟨tr,l9⟩:=gJ;have dK:a6p (sgs k m) vs=[.islice ((sgs k m).map Sgn.row) (some (sgs k m).length),.islice [tmR] (some 1),sl tr (vs.map vcR)]:=by unfold a6p;rw[hT,l9]
 rw[dK]at bX⊢;simp only[tmR]at bX⊢;generalize(sgs k m).map Sgn.row=G at bX⊢
 (refine sv Tryz.f65 ?_;simp only[Tryz.f65,gS])
 (repeat first|simp only[ww]|(apply xa;simp+decide only[go_sem,bX,c10];rfl;kernel_rfl))
 refine a0m (σ:=Nat) kp65_0 (λi=>[(5,.int .i64 i),(14,sl tr (vs.map vcR)),(15,.int .i64 vs.length),(16,.int .i64 i)]) (λi=>[]) (λi=>vs.length-i) (λi=>i≤vs.length) 0 ?_ (e5q _) ?_
 ·(simp+decide only[go_sem,a03,a00,c10]<;>rfl)<;>rfl
 ·intro i hi;by_cases ak:i<vs.length
  ·obtain⟨s,hs⟩:∃s,vs[i]?=some s:=⟨_,z9e ak⟩
   have d1:(i:Int)<vs.length:=by omega
   have bt:=wI1 (n:=i) (by omega);have eH:vcR s=[.int .i64 0,.str s,.int .i64 1]:=rfl
   (repeat first|simp only[ww]|(apply xa;simp+decide only[go_sem,d1,ak,hs,eH,bt,c10];rfl;kernel_rfl))
   refine a28 (i+1) ?_ (by omega) (by omega)
   (simp+decide only[go_sem,a03,a00]<;>rfl)<;>rfl
  ·obtain rfl:i=vs.length:=by omega
   have d1:¬(vs.length:Int)<vs.length:=by omega
   (repeat first|simp only[ww]|(apply xa;simp+decide only[go_sem,d1];rfl;kernel_rfl))
   (apply fqb;simp+decide only[go_sem]<;>rfl)
theorem b33{d:Bool}(H:a02):a09 L.env d (sem L.env Mf) (.func (.func 65) [] []) [.agg (a6p (sgs k m) vs)] H=some (.tuple [.int .i64 vs.length,.int .i64 0],H,[]):=a04 (by kernel_rfl) (by kernel_rfl) rfl (by simp only[e5m,e4t,a06,a0z,a4d,a0r]) (c8j k1 k4 m1 m4 dC em) rfl
theorem d6v:sem L.env Mf 67 [.agg (a6p (sgs k m) vs),.int .i64 vs.length] []=some (.tuple [.islice (vs.map vcR) (some vs.length),.int .i64 0],[]):=by
 have ia:=λ(d:Bool) (H:a02)=>b33 (d:=d) k1 k4 m1 m4 dC em H;obtain⟨T,hT⟩:∃T,a9k vs=T:=⟨_,rfl⟩
 have gJ:∃r,T=sl r (vs.map vcR):=by
  rw[←hT];cases vs with
  |nil=>exact⟨none,rfl⟩
  |cons v r=>exact⟨some (some (r.length+1)),rfl⟩
 obtain⟨tr,l9⟩:=gJ;have dK:a6p (sgs k m) vs=[.islice ((sgs k m).map Sgn.row) (some (sgs k m).length),.islice [tmR] (some 1),sl tr (vs.map vcR)]:=by unfold a6p;rw[hT,l9]
 rw[dK]at ia⊢;simp only[tmR]at ia⊢;generalize(sgs k m).map Sgn.row=G at ia⊢;have c1:¬(vs.length:Int)<vs.length:=by omega
 have i3:c6s L.env 64 0 (vs.length:Int)=true:=by have h1:=a7v (E:=L.env) (e:=64) (m:=vs.length) (by omega) (by decide+kernel);unfold c6s at h1⊢;simp only[c11,e6l]at h1⊢;exact⟨⟨⟨Int.le_refl 0,h1.1.1.1⟩,h1.1.2⟩,h1.2⟩
 obtain⟨f,hf⟩:∃f:Nat→List AV,f=λj=>vcR (vs.getD j []):=⟨_,rfl⟩
 have dY:∀j,a0a (f j)=[]:=λj=>by rw[hf];rfl
 obtain⟨z,hz⟩:∃z,[AV.int .i64 0,.str [],.int .i64 0]=z:=⟨_,rfl⟩
 have bH:a0a z=[]:=by rw[←hz];rfl
 (refine sv Tryz.f67 ?_;simp only[Tryz.f67,gS])
 (repeat first|simp only[ww]|(apply xa;simp+decide only[go_sem,ia,c1,i3,c10];rfl;kernel_rfl))
 rw[hz];refine a0m (σ:=Nat) kp67_1 (λi=>[(8,.slice 0 0 i (some vs.length)),(27,sl tr (vs.map vcR)),(28,.int .i64 vs.length),(29,.int .i64 i)]) (λi=>[some (.row 3 (upT f z vs.length i))]) (λi=>vs.length-i) (λi=>i≤vs.length) 0 ?_ (e5q _) ?_
 ·rw[←c9w (f:=f)];have h1:=a0c (a2b (f:=f) (z:=z) (n:=vs.length) (i:=0) bH dY);have h2:=λπ=>a08 π (a2b (f:=f) (z:=z) (n:=vs.length) (i:=0) bH dY)
  (simp+decide only[go_sem,a03,a00,h1,h2,c10]<;>rfl)<;>rfl
 ·intro i hi;by_cases ak:i<vs.length
  ·obtain⟨s,hs⟩:∃s,vs[i]?=some s:=⟨_,z9e ak⟩
   have d1:(i:Int)<vs.length:=by omega
   have bt:=wI1 (n:=i) (by omega);have eH:vcR s=[.int .i64 0,.str s,.int .i64 1]:=rfl;have jP:f i=[.int .i64 0,.str s,.int .i64 1]:=by rw[hf,←eH];simp only[e7x,hs,e7v]
   have h0:=a0c (a2b (f:=f) (z:=z) (n:=vs.length) (i:=i) bH dY);have rV:=λπ=>a08 π (a2b (f:=f) (z:=z) (n:=vs.length) (i:=i) bH dY);have h1:=a0c (a2b (f:=f) (z:=z) (n:=vs.length) (i:=i+1) bH dY);have h2:=λπ=>a08 π (a2b (f:=f) (z:=z) (n:=vs.length) (i:=i+1) bH dY);have aC:=b5p (f:=f) (z:=z) ak;have dM:=a64 (f:=f) (z:=z) (n:=vs.length) (i:=i);rw[jP]at aC;have dO:i≤vs.length:=by omega
   have dN:i+1≤vs.length:=by omega
   have nt:(upT f z vs.length i).take i++[[.int .i64 0,.str s,.int .i64 1]]++(upT f z vs.length i).drop (i+1)=upT f z vs.length (i+1):=by rw[←aC,List.set_eq_take_append_cons_drop,e6q (by rw[dM];exact ak)];simp
   (repeat first|simp only[ww]|(apply xa;simp+decide only[go_sem,d1,ak,hs,eH,bt,c10];rfl;kernel_rfl))
   refine a0m (σ:=Bool) kp67_3 (λq=>[(8,.slice 0 0 (bif q then i+1 else i) (some vs.length)),(10,.ptr 1 0 0),(27,sl tr (vs.map vcR)),(28,.int .i64 vs.length),(29,.int .i64 i),(34,.int .i64 1),(35,.int .i64 (bif q then 1 else 0))])
    (λq=>[some (.row 3 (upT f z vs.length (bif q then i+1 else i))),some (.row 3 [[.int .i64 0,.str s,.int .i64 1]])]) (λq=>bif q then 0 else 1) (λ_=>True) false ?_ trivial ?_
   ·(simp+decide only[go_sem,a03,a00,h0,rV,c10]<;>rfl)<;>rfl
   ·intro q _;cases q with
    |false=>
     simp only[e6w]
     (repeat first|simp only[ww]|(apply xa;simp+decide only[go_sem,dM,dO,dN,nt];rfl;kernel_rfl))
     refine a28 true ?_ (by decide) trivial
     (simp+decide only[go_sem,a03,a00,h1,h2,c10]<;>rfl)<;>rfl
    |true=>
     simp only[e6m]
     (repeat first|simp only[ww]|(apply xa;simp+decide only[go_sem,bt];rfl;kernel_rfl))
     refine a28 (i+1) ?_ (by omega) (by omega)
     (simp+decide only[go_sem,a03,a00,h1,h2]<;>rfl)<;>rfl
  ·obtain rfl:i=vs.length:=by omega
   have d1:¬(vs.length:Int)<vs.length:=by omega
   have iS:upT f z vs.length vs.length=vs.map vcR:=by rw[b5q,hf];have:=congrArg (List.map vcR) (b4d vs []);rw[e9g]at this;exact this
   have gU:=a64 (f:=f) (z:=z) (n:=vs.length) (i:=vs.length);rw[iS]at gU;rw[iS];have dc:=λm d=>a13 (m:=m) (d:=d) (b6q vs);have du:(vs.map vcR).take vs.length=vs.map vcR:=e5o (by omega);generalize vs.map vcR=U at dc gU du⊢
   (repeat first|simp only[ww]|(apply xa;simp+decide only[go_sem,d1];rfl;kernel_rfl))
   (apply fqb;simp+decide only[go_sem,dc,gU,du]<;>rfl)
theorem c88{d:Bool}(H:a02):a09 L.env d (sem L.env Mf) (.func (.func 67) [] []) [.agg (a6p (sgs k m) vs),.int .i64 vs.length] H=some (.tuple [.islice (vs.map vcR) (some vs.length),.int .i64 0],H,[]):=a04 (by kernel_rfl) (by kernel_rfl) rfl (by simp only[e5m,e4t,a06,a0z,a4d,a0r,a8u]) (d6v k1 k4 m1 m4 dC em) rfl
end
def xz(v:Nat):Nat:=if v≤1 then v else 2
theorem e0k(v:Nat):le2 (xz v) v:=by
 unfold le2 xz;by_cases h:v≤1
 ·rw[e6q h];exact .inl rfl
 ·rw[e5s h];exact .inr rfl
theorem c80(c:Cir)(ord:List Nat){x y s t:List Nat}(hx:lel x y)(hs:lel s t):lel (gN c ord x s) (gN c ord y t):=c6p d1z ord _ _ hx hs
theorem c3j(outs:List Nat){N M:List Nat}(h:lel N M):lel (a1p outs N) (a1p outs M):=c78 outs λn _=>h.getD 0 n
theorem c3o(nodes:List Nd){N M:List Nat}(h:lel N M):lel (a1r nodes N) (a1r nodes M):=c78 _ λn _=>a8y (h.getD 0 _)
def xA(A:List (Rep×List Nat)):List (Rep×List Nat):=A.map λa=>(some (some a.2.length),a.2.map xz)
theorem d48:∀l:List Nat,lel (l.map xz) l
 | []=>trivial
 |v::l=>⟨e0k v,d48 l⟩
theorem c1u(A:List (Rep×List Nat))(i:Nat):inA (xA A) i=(inA A i).map xz:=by unfold inA xA;rw[e7x,e7x,e5n];cases A[i]?<;>rfl
theorem e0q(A:List (Rep×List Nat))(i:Nat):lel (inA (xA A) i) (inA A i):=by rw[c1u];exact d48 _
theorem d9l(c:Cir)(ord:List Nat)(A:List (Rep×List Nat)):∀i,lel (stA c ord (xA A) i) (stA c ord A i)
 |0=>lel.rfl' _
 |i+1=>c3o _ (c80 c ord (e0q A i) (d9l c ord A i))
theorem e4x(c:Cir)(ord:List Nat)(A:List (Rep×List Nat))(i:Nat):lel (ouA c ord (xA A) i) (ouA c ord A i):=c3j _ (c80 c ord (e0q A i) (d9l c ord A i))
theorem d63{a b:Nat}(h:le2 a b)(hb:b≤3):((a4s 76 72 b=76∧a=1)∨(a4s 76 72 b=72∧a=0))→False:=by
 unfold le2 at h
 rintro(⟨h1,h2⟩|⟨h1,h2⟩)
 ·obtain rfl:b=1:=by omega
  exact absurd h1 (by decide)
 ·obtain rfl:b=0:=by omega
  exact absurd h1 (by decide)
theorem e45(v:Nat):xz v≤2:=by unfold xz;split<;>omega
theorem b8b{A:List (Rep×List Nat)}{i k:Nat}(h:(inA A i).length=k):(inA (xA A) i).length=k:=by rw[c1u,c10,h]
theorem d1y(A:List (Rep×List Nat))(i:Nat):∀v∈inA (xA A) i,v≤2:=by rw[c1u];intro v hv;obtain⟨w,_,rfl⟩:=e7t.1 hv;exact e45 w
theorem c5x(G:List Sgn)(c1 c2:Option Nat)(hl:G.length≤1000):sem L.env Mf 66 [.islice (G.map Sgn.row) c1,.islice (G.map Sgn.row) c2] []=some (.bool true,[]):=by
 have c0:(G.length:Int)=G.length:=rfl
 (refine sv Tryz.f66 ?_;simp only[Tryz.f66,gS])
 (repeat first|simp only[ww]|(apply xa;simp+decide only[go_sem,c10];rfl;kernel_rfl))
 refine a0m (σ:=Nat) kp66_0 (λi=>[(0,.islice (G.map Sgn.row) c1),(1,.islice (G.map Sgn.row) c2),(12,.int .i64 G.length),(13,.int .i64 i)]) (λi=>[]) (λi=>G.length-i) (λi=>i≤G.length) 0 ?_ (e5q _) ?_
 ·(simp+decide only[go_sem,a03,a00]<;>rfl)<;>rfl
 ·intro i hi;by_cases ak:i<G.length
  ·obtain⟨g,hg⟩:∃g,G[i]?=some g:=⟨_,z9e ak⟩
   have d1:(i:Int)<G.length:=by omega
   have bt:=wI1 (n:=i) (by omega);have ja:g.row=[.str g.nm,.int .u8 g.dir]:=rfl
   (repeat first|simp only[ww]|(apply xa;simp+decide only[go_sem,d1,ak,hg,ja,bt,c10,beq_self_eq_true,e8h,e9t];rfl;kernel_rfl))
   refine a28 (i+1) ?_ (by omega) (by omega)
   (simp+decide only[go_sem,a03,a00]<;>rfl)<;>rfl
  ·obtain rfl:i=G.length:=by omega
   have d1:¬(G.length:Int)<G.length:=by omega
   (repeat first|simp only[ww]|(apply xa;simp+decide only[go_sem,d1];rfl;kernel_rfl))
   (apply fqb;simp+decide only[go_sem]<;>rfl)
theorem b9j{d:Bool}(H:a02)(G:List Sgn)(c1 c2:Option Nat)(hl:G.length≤1000):a09 L.env d (sem L.env Mf) (.func (.func 66) [] []) [.islice (G.map Sgn.row) c1,.islice (G.map Sgn.row) c2] H=some (.bool true,H,[]):=a04 (by kernel_rfl) (by kernel_rfl) rfl rfl (c5x G c1 c2 hl) rfl
theorem d9c:∀v:Nat,v<4→sem L.env Mf 69 [.int .u8 (a4s 48 49 v).toNat] []=some (.int .u8 (xz v),[]):=e15 (a0i (E:=L.env) a0h 60 (by kernel_rfl)) (a0i (E:=L.env) a0h 60 (by kernel_rfl)) (a0i (E:=L.env) a0h 60 (by kernel_rfl)) (a0i (E:=L.env) a0h 60 (by kernel_rfl))
theorem c9v{d:Bool}(H:a02)(v:Nat)(hv:v≤3):a09 L.env d (sem L.env Mf) (.func (.func 69) [] []) [.int .u8 (a4s 48 49 v).toNat] H=some (.int .u8 (xz v),H,[]):=a04 (by kernel_rfl) (by kernel_rfl) rfl rfl (d9c v (by omega)) rfl
/- the machine -/
def fn1(c:Cir):AV:=.func (.func 121) [] [.iptr c.enc]
theorem a94(c:Cir):refs (fn1 c)=[]:=by have:=a2v c;simp only[fn1,refs,a0a,this,e4t,e5m]
theorem d0a(c:Cir)(hc:c.wf)(hO:c.outs≠[])(ord:List Nat)(aS:OrdOf c ord)(p:Pat)(hp:PatOk c.nodes p):sem L.env Mf 121 [.agg p.enc,.iptr c.enc] []=some (b9o (a1p c.outs (gN c ord p.ins p.sts)) (a1r c.nodes (gN c ord p.ins p.sts)),[]):=by
 have hr:=λ(d:Bool) (H:a02)=>b1l (d:=d) H c hc hO p hp ord aS;simp only[Cir.enc,Pat.enc]at hr⊢;unfold b9o at hr⊢;have s1:=a52 (a1p c.outs (gN c ord p.ins p.sts));have s2:=a52 (a1r c.nodes (gN c ord p.ins p.sts));have r1:=a2j (a1p c.outs (gN c ord p.ins p.sts));have r2:=a2j (a1r c.nodes (gN c ord p.ins p.sts));generalize a3m (a1p c.outs (gN c ord p.ins p.sts))=C1 at hr s1 r1⊢;generalize a3m (a1r c.nodes (gN c ord p.ins p.sts))=C2 at hr s2 r2⊢;have f1:=λm t d=>a1c m t d _ r1;have f2:=λm t d=>a1c m t d _ r2
 (refine sv Tryz.f121 ?_;simp only[Tryz.f121,gS])
 (repeat first|simp only[ww]|(apply xa;simp+decide only[go_sem,hr,s1,s2];rfl;kernel_rfl))
 (apply fqb;simp+decide only[go_sem,f1,f2]<;>rfl)
theorem c2z(c:Cir)(hc:c.wf)(hO:c.outs≠[])(ord:List Nat)(aS:OrdOf c ord)(p:Pat)(hp:PatOk c.nodes p){d:Bool}(H:a02) :
 a09 L.env d (sem L.env Mf) (fn1 c) [.agg p.enc] H=some (b9o (a1p c.outs (gN c ord p.ins p.sts)) (a1r c.nodes (gN c ord p.ins p.sts)),H,[]):=
 a04 (by kernel_rfl) (by kernel_rfl) rfl (by simp only[e5m,e4t,e7p,a06,a0z,c67,Pat.enc,a12,a0r,a2v]) (d0a c hc hO ord aS p hp) (b1u _ _)
theorem c30(c:Cir)(hc:c.wf):sem L.env Mf 68 [.agg c.enc,.nilslice] []=some (.ptr 0 0 0,[some (.row 3 [[fn1 c,.islice ((List.replicate (kinds c.nodes 0).length 2).map u8R) (some (kinds c.nodes 0).length),.islice ((List.replicate (kinds c.nodes 14).length 2).map u8R) (some (kinds c.nodes 14).length)]])]):=by
 have hb:∀(d:Bool) (H:a02),a09 L.env d (sem L.env Mf) (.func (.func 22) [] []) [.agg [sl c.nc (c.nodes.map Nd.enc),sl c.mc (c.names.map a3a),.nilslice,sl c.oc (c.outs.map a0s)]] H=some (.agg [.islice ((List.replicate (kinds c.nodes 0).length 2).map u8R) (some (kinds c.nodes 0).length),.islice ((List.replicate (kinds c.nodes 14).length 2).map u8R) (some (kinds c.nodes 14).length)],H,[]):=λd H=>a89 H c hc;simp only[Cir.enc,fn1]
 (refine sv Tryz.f68 ?_;simp only[Tryz.f68,gS])
 (repeat first|simp only[ww]|(apply xa;simp+decide only[go_sem,hb];rfl;kernel_rfl))
 (apply fqb;simp+decide only[go_sem]<;>rfl)
theorem d2f(c:Cir)(hc:c.wf)(hO:c.outs≠[])(ord:List Nat)(aS:OrdOf c ord)(I0:AV)(s:List Nat)(rs:Rep)(i:List Nat)(ci:Option Nat)(hp:PatOk c.nodes ⟨some ci,i,rs,s⟩) :
 sem L.env Mf 70 [.ptr 0 0 0,.islice (i.map u8R) ci] [some (.row 3 [[fn1 c,I0,sl rs (s.map u8R)]])]=some (a3m (a1p c.outs (gN c ord i s)),[some (.row 3 [[fn1 c,.islice (i.map u8R) ci,a3m (a1r c.nodes (gN c ord i s))]])]):=by
 have hs:∀(d:Bool) (H:a02),a09 L.env d (sem L.env Mf) (fn1 c) [.agg [.islice (i.map u8R) ci,sl rs (s.map u8R)]] H=some (.agg [a3m (a1p c.outs (gN c ord i s)),a3m (a1r c.nodes (gN c ord i s))],H,[]):=λd H=>c2z c hc hO ord aS _ hp (d:=d) H;have s1:=a52 (a1p c.outs (gN c ord i s));have s2:=a52 (a1r c.nodes (gN c ord i s));have r1:=a2j (a1p c.outs (gN c ord i s));have r2:=a2j (a1r c.nodes (gN c ord i s));have c1:=c0q (a1p c.outs (gN c ord i s));have c2:=c0q (a1r c.nodes (gN c ord i s));have j1:=c0p (a1p c.outs (gN c ord i s));have j2:=c0p (a1r c.nodes (gN c ord i s));generalize a3m (a1p c.outs (gN c ord i s))=C1 at hs s1 r1 c1 j1⊢;generalize a3m (a1r c.nodes (gN c ord i s))=C2 at hs s2 r2 c2 j2⊢;have f1:=λm t d=>a1c m t d _ r1;have f2:=λm t d=>a1c m t d _ r2;have w2:=λπ=>a1d π _ r2;have w0:=λπ=>a1d π _ (a94 c)
 (refine sv Tryz.f70 ?_;simp only[Tryz.f70,gS])
 (repeat first|simp only[ww]|(apply xa;simp+decide only[go_sem,hs,s1,s2,c1,c2,j1,j2];rfl;kernel_rfl))
 (apply fqb;simp+decide only[go_sem,f1,f2,w0,w2]<;>rfl)
def vlC(n:Nat)(l:List Nat):AV:=.islice (l.map u8R) (some n)
theorem c17(n:Nat)(l:List Nat):refs (vlC n l)=[]:=rfl
theorem a5v(c:Cir){I W:AV}(hi:refs I=[])(hw:refs W=[]):FlatR [[fn1 c,I,W]]:=FlatR.cons (by simp only[a06,a94,hi,hw,a0r,e4t]) FlatR.nil
theorem c0u{E:Env}{d:Bool}{call:CallF}{g:FuncId}{fs cs ar args:List AV}{H:a02}{k:Nat}{aa:List (List AV)}(hx:E.ext g=false)(hf:(E.fn g).isSome=true)(he:fs++ar++cs=args)(aG:a0a args=[])(hr:call g args []=some (.ptr 0 0 0,[some (.row k aa)]))(cu:FlatR aa) :
 a09 E d call (.func (.func g) fs cs) ar H=some (.ptr H.length 0 0,H++[some (.row k aa)],[]):=by
 have hc:=a3i (call g) args H (σ:=[]) (by rw[aG];rfl) rfl rfl (aq:=args) (a34 _ aG) (H0:=[]) rfl hr;have hp:∀(s:Nat) (H:a02),a14 [] H.length [some (AObj.row k aa)] s H=H:=by
  intro s H;have:∀(n s:Nat) (H:a02),a14 [] n [some (AObj.row k aa)] s H=H:=by
   intro n s H
   induction H generalizing s with
   |nil=>rfl
   |cons x H ih=>simp[a14,ih]
  exact this _ _ _
 rw[hp]at hc;have h1:=λπ=>a08 π cu;have hb:ren (a1f [] H.length) (.ptr 0 0 0) = .ptr H.length 0 0:=rfl;rw[hb]at hc;simp only[e5r,e86,e4r,e5j,e5p,a0d,h1]at hc;exact c8v hx hf he hc (by simp)
theorem b7m{d:Bool}(H:a02)(c:Cir)(hc:c.wf):a09 L.env d (sem L.env Mf) (.func (.func 68) [] []) [.agg c.enc,.nilslice] H=some (.ptr H.length 0 0,H++[some (.row 3 [[fn1 c,.islice ((List.replicate (kinds c.nodes 0).length 2).map u8R) (some (kinds c.nodes 0).length),.islice ((List.replicate (kinds c.nodes 14).length 2).map u8R) (some (kinds c.nodes 14).length)]])],[]):=c0u (by kernel_rfl) (by kernel_rfl) rfl (by simp only[e5m,e4t,a06,a0z,a2v,go_sem]) (c30 c hc) (a5v c (c17 _ _) (c17 _ _))
theorem c4a{d:Bool}{H:a02}{b:Nat}(c:Cir)(hc:c.wf)(hO:c.outs≠[])(ord:List Nat)(aS:OrdOf c ord)(I0:AV)(mT:refs I0=[])(s:List Nat)(rs:Rep)(i:List Nat)(ci:Option Nat)(hp:PatOk c.nodes ⟨some ci,i,rs,s⟩)(hb:a01 H b=some (.row 3 [[fn1 c,I0,sl rs (s.map u8R)]])) :
 a09 L.env d (sem L.env Mf) (.func (.func 70) [] []) [.ptr b 0 0,.islice (i.map u8R) ci] H=some (a3m (a1p c.outs (gN c ord i s)),H.set b (some (.row 3 [[fn1 c,.islice (i.map u8R) ci,a3m (a1r c.nodes (gN c ord i s))]])),[b]):=by
 have r1:∀(l:List Nat) n,refs (.islice (l.map u8R) n)=[]:=λl n=>rfl;refine a43 (by kernel_rfl) (by kernel_rfl) rfl hb ?_ (FlatO.row (a5v c mT (a12 _ _))) ?_ (aq:=[.ptr 0 0 0,.islice (i.map u8R) ci]) ?_ (d2f c hc hO ord aS I0 s rs i ci hp) (FlatO.row (a5v c (r1 _ _) (a2j _))) (a1d _ _ (a2j _))
 ·simp only[a0t,List.flatMap_cons,List.flatMap_nil,a06,a94,mT,a12,a0r,e4t]
 ·simp only[e5m,e4t,a06,d0n,r1,a0r]
 ·simp only[e5m,e4t,e4r,e5j,a1d _ _ (r1 _ _)];simp[ren,a8e,e8i]
theorem c6t:sem L.env Mf 71 [.nilslice] []=some (.nilslice,[]):=by
 (refine sv Tryz.f71 ?_;simp only[Tryz.f71,gS])
 (repeat first|simp only[ww]|(apply xa;simp+decide only[go_sem];rfl;kernel_rfl))
 (apply fqb;simp+decide only[go_sem]<;>rfl)
theorem c00{d:Bool}(H:a02):a09 L.env d (sem L.env Mf) (.func (.func 71) [] []) [.nilslice] H=some (.nilslice,H,[]):=a04 (by kernel_rfl) (by kernel_rfl) rfl rfl c6t rfl
theorem c2d{l:List Nat}{n:Nat}(h:l.length=n)(hn:1≤n):a3m l = .islice (l.map u8R) (some n):=by
 cases l with
 |nil=>simp at h;omega
 |cons x r=>subst h;rfl
section
variable (c:Cir)(ord:List Nat)(A:List (Rep×List Nat))
def mI(k:Nat):Nat→AV
 |0=>.islice ((List.replicate (kinds c.nodes 0).length 2).map u8R) (some (kinds c.nodes 0).length)
 |i+1=>.islice ((inA (xA A) i).map u8R) (some k)
def mS(i:Nat):AV:=sl (stR c ord (xA A) i) ((stA c ord (xA A) i).map u8R)
def mB(k i:Nat):Option AObj:=some (.row 3 [[fn1 c,mI c A k i,mS c ord A i]])
end
theorem c02(c:Cir)(A:List (Rep×List Nat))(k i:Nat):refs (mI c A k i)=[]:=by cases i<;>rfl
theorem d66(c:Cir)(ord:List Nat)(A:List (Rep×List Nat))(k i:Nat):FlatR [[fn1 c,mI c A k i,mS c ord A i]]:=a5v c (c02 c A k i) (a12 _ _)
theorem d50(c:Cir)(hc:c.wf){k m:Nat}(ht:Tio c k m)(ord:List Nat)(aS:OrdOf c ord)(A:List (Rep×List Nat))(dl:A.length≤8)(hA:∀a∈A,a.2.length=k∧∀v∈a.2,v≤3)(em:∀s∈gdC c ord A,VecOk (sgs k m) s) :
 ∃H1,sem L.env Mf 26 [.agg c.enc,.agg (a6p (sgs k m) (gdC c ord A)),.nilslice] []=some (.tuple [.nilslice,.int .i64 0],H1):=by
 have hO:c.outs≠[]:=by intro e;have:=ht.out;have:=ht.m1;rw[e]at *;simp at *;omega
 have gW:=λ(d:Bool) (H:a02)=>a6z (d:=d) H c hc ht;have bS:=λ(d:Bool) (H:a02)=>a40 (d:=d) H c (by have:=hc.len;omega);have dC:(gdC c ord A).length=A.length:=b1b (b64 c ord A).symm;have ia:=λ(d:Bool) (H:a02)=>b33 ht.k1 ht.k4 ht.m1 ht.m4 (vs:=gdC c ord A) (by omega) em (d:=d) H;have cu:=λ(d:Bool) (H:a02)=>c88 ht.k1 ht.k4 ht.m1 ht.m4 (vs:=gdC c ord A) (by omega) em (d:=d) H;rw[dC]at ia cu;have bW:=λ(d:Bool) (H:a02) (c1 c2:Option Nat)=>b9j (d:=d) H (sgs k m) c1 c2 (by have:=a3c k m;have:=ht.k4;have:=ht.m4;omega);have aI:∀(d:Bool) (H:a02),a09 L.env d (sem L.env Mf) (.func (.func 68) [] []) [.agg [sl c.nc (c.nodes.map Nd.enc),sl c.mc (c.names.map a3a),.nilslice,sl c.oc (c.outs.map a0s)],.nilslice] H=some (.ptr H.length 0 0,H++[some (.row 3 [[fn1 c,mI c A k 0,mS c ord A 0]])],[]):=λd H=>b7m (d:=d) H c hc;obtain⟨r0,e0⟩:=a4k (kinds c.nodes 0);rw[e0,ht.ins]at bS;have b8:=λ(I0:AV) (mT:refs I0=[]) (s:List Nat) (rs:Rep) (i:List Nat) (ci:Option Nat) (hp:PatOk c.nodes ⟨some ci,i,rs,s⟩) (H:a02) (b:Nat) (hb:a01 H b=some (.row 3 [[fn1 c,I0,sl rs (s.map u8R)]])) (d:Bool)=>c4a (d:=d) c hc hO ord aS I0 mT s rs i ci hp hb;obtain⟨t1,t2,t3,t4,t5,t6⟩:=ht;have hn:=hc.len;have cU:=a3c k m;have fQ:(kinds c.nodes 0).length=k:=by rw[t1];simp
 obtain⟨V,hV⟩:∃V,a9k (gdC c ord A)=V:=⟨_,rfl⟩
 have j3:refs V=[]:=by rw[←hV];exact a3y _
 have j0:V.storable=true:=by rw[←hV];cases gdC c ord A<;>rfl
 have j4:V.cells=[V]:=by rw[←hV];cases gdC c ord A<;>rfl
 have l8:V.isJunk=false:=by rw[←hV];cases gdC c ord A<;>rfl
 have dK:a6p (sgs k m) (gdC c ord A)=[.islice ((sgs k m).map Sgn.row) (some (k+m)),.islice [tmR] (some 1),V]:=by unfold a6p;rw[cU,hV]
 rw[dK]at ia cu;rw[dK];simp only[Cir.enc]at gW bS⊢;have c3:¬((1024:Int)<A.length):=by omega
 have pU:∀π,ren π V=V:=λπ=>a1d π _ j3;have fM:∀π:Nat→Option Nat,a0d π (.row 4 [[sl c.nc (c.nodes.map Nd.enc),sl c.mc (c.names.map a3a),.nilslice,sl c.oc (c.outs.map a0s)]]) = .row 4 [[sl c.nc (c.nodes.map Nd.enc),sl c.mc (c.names.map a3a),.nilslice,sl c.oc (c.outs.map a0s)]]:=λπ=>by simp+decide only[go_sem]
 have fY:a0t (some (.row 4 [[sl c.nc (c.nodes.map Nd.enc),sl c.mc (c.names.map a3a),.nilslice,sl c.oc (c.outs.map a0s)]]))=[]:=by simp+decide only[go_sem]
 have gK:∀π:Nat→Option Nat,a0d π (.row 3 [[.islice ((sgs k m).map Sgn.row) (some (k+m)),.islice [tmR] (some 1),V]]) = .row 3 [[.islice ((sgs k m).map Sgn.row) (some (k+m)),.islice [tmR] (some 1),V]]:=λπ=>by simp+decide only[go_sem,pU]
 have iH:a0t (some (.row 3 [[.islice ((sgs k m).map Sgn.row) (some (k+m)),.islice [tmR] (some 1),V]]))=[]:=by simp+decide only[go_sem,j3]
 refine⟨[mB c ord A k A.length],?_⟩
 (refine sv Tryz.f26 ?_;simp only[Tryz.f26,gS])
 (repeat first|simp only[ww]|(apply xa;simp+decide only[go_sem,gW,j0,j4,l8,c3];rfl;kernel_rfl))
 refine a0m (σ:=Unit) kp26_1 (λ_=>[(2,.nilslice),(3,.ptr 0 0 0),(4,.ptr 1 0 0),(8,.islice ((sgs k m).map Sgn.row) (some (k+m))),(39,.nilslice),(40,.int .i64 0),(41,.int .i64 0)]) (λ_=>[some (.row 4 [[sl c.nc (c.nodes.map Nd.enc),sl c.mc (c.names.map a3a),.nilslice,sl c.oc (c.outs.map a0s)]]),some (.row 3 [[.islice ((sgs k m).map Sgn.row) (some (k+m)),.islice [tmR] (some 1),V]])]) (λ_=>0) (λ_=>True) () ?_ trivial ?_
 ·(simp+decide only[go_sem,a03,a00,fM,fY,gK,iH]<;>rfl)<;>rfl
 ·intro _ _
  (repeat first|simp only[ww]|(apply xa;simp+decide only[go_sem,ia,cu,bW,aI,bS,j0,j4,l8,c3,c10,e7n];rfl;kernel_rfl))
  have qh:=d66 c ord A k;have kD:=λi=>a0j (k:=3) (qh i);have mh:∀i π,a0d π (.row 3 [[fn1 c,mI c A k i,mS c ord A i]]) = .row 3 [[fn1 c,mI c A k i,mS c ord A i]]:=λi π=>z9o (FlatO.row (k:=3) (qh i) π);refine a0m (σ:=Nat) kp26_4 (λi=>[(16,.ptr 0 0 0),(17,.int .i64 k),(18,.nilslice),(82,.islice ((gdC c ord A).map vcR) (some A.length)),(83,.int .i64 A.length),(84,.int .i64 i)]) (λi=>[mB c ord A k i]) (λi=>A.length-i) (λi=>i≤A.length) 0 ?_ (e5q _) ?_
  ·have w0:=λπ=>a1d π _ (a94 c);have w1:=a94 c
   (simp+decide only[go_sem,a03,a00,fM,fY,gK,iH,kD,mh,dC]<;>rfl)<;>rfl
  ·intro i hi;by_cases ak:i<A.length
   ·obtain⟨a,ha⟩:∃a,A[i]?=some a:=⟨_,z9e ak⟩
    have jr:(gdC c ord A)[i]?=some (cyc a.2 (ouA c ord A i)):=b1c ha (b9t c ord A ak);obtain⟨oC,pQ⟩:=hA a (e12 ha);have d1:(i:Int)<A.length:=by omega
    have bU:∀s,vcR s=[.int .i64 0,.str s,.int .i64 1]:=λs=>rfl;have aN:k≤1000000000:=by omega
    unfold mB;have cf:=kD i;have dF:=mh i;have oJ:=c02 c A k i;generalize mI c A k i=MI at cf dF oJ⊢
    (repeat first|simp only[ww]|(apply xa;simp+decide only[go_sem,d1,ak,jr,bU,aN,c10];rfl;kernel_rfl))
    obtain⟨z,mp⟩:∃z:List AV,[AV.int .u8 0]=z:=⟨_,rfl⟩
    have bH:a0a z=[]:=by rw[←mp];rfl
    have ff:1≤z.length:=by rw[←mp];exact e6o 1
    have na:z.drop 1=[]:=by rw[←mp];rfl
    obtain⟨f,hf⟩:∃f:Nat→List AV,f=λj=>u8R ((inA (xA A) i).getD j 0):=⟨_,rfl⟩
    have dY:∀j,a0a (f j)=[]:=λj=>by rw[hf];rfl
    have jO:=λj=>a2b (f:=f) (z:=z) (n:=k) (i:=j) bH dY;have fN:=λj=>a0c (jO j);have oX:=λj π=>a08 π (jO j);have pV:FlatR [[AV.int .i64 0,AV.str (cyc a.2 (ouA c ord A i)),AV.int .i64 1]]:=FlatR.cons rfl FlatR.nil;rw[mp];refine b7g kp26_6 rfl 2 rfl (σ:=Nat) (λj=>[(16,.ptr 0 0 0),(17,.int .i64 k),(18,.nilslice),(19,.int .i64 i),(20,.ptr 1 0 0),(21,.slice 2 0 k (some k)),(82,.islice ((gdC c ord A).map vcR) (some A.length)),(83,.int .i64 A.length),(84,.int .i64 i),(92,.int .i64 k),(93,.int .i64 j),(1000002,.junk)])
     (λj=>[some (.row 3 [[fn1 c,MI,mS c ord A i]]),some (.row 3 [[AV.int .i64 0,AV.str (cyc a.2 (ouA c ord A i)),AV.int .i64 1]]),some (.row 1 (upT f z k j))]) (λj=>k-j) (λj=>j≤k) 0 ?_ (e5q _) ?_
    ·rw[←c9w (f:=f)]
     (simp+decide only[go_sem,a03,a00,cf,dF,fN,oX]<;>rfl)<;>rfl
    ·intro j hj;by_cases bg:j<k
     ·have d2:(j:Int)<k:=by omega
      have kQ:=wI1 (n:=j) (by omega);obtain⟨v,hv⟩:∃v,a.2[j]?=some v:=⟨_,z9e (by omega)⟩
      have nk:=pQ v (e12 hv);have ft:(cyc a.2 (ouA c ord A i))[j]?=some (a4s 48 49 v):=by unfold cyc;rw[e6j (by rw[c10];omega),e5n,hv];rfl
      have eD:=(e5k.1 ft).1;have fO:=λ(d:Bool) (H:a02)=>c9v (d:=d) H v nk;have aC:=b5p (f:=f) (z:=z) bg;have cA:=c5c (f:=f) (z:=z) bg;have dM:=a64 (f:=f) (z:=z) (n:=k) (i:=j);have rj:f j=[.int .u8 (xz v)]:=by rw[hf];show u8R _=_;rw[c1u,a5a ha,e7x,e5n,hv];rfl
      rw[rj]at aC
      (repeat first|simp only[ww]|(apply xa;simp+decide only[go_sem,d2,bg,ft,eD,fO,aC,cA,dM,kQ,ff,na];rfl;kernel_rfl))
      refine a28 (j+1) ?_ (by omega) (by omega)
      (simp+decide only[go_sem,a03,a00,cf,dF,fN,oX]<;>rfl)<;>rfl
     ·obtain rfl:j=k:=by omega
      have d2:¬(j:Int)<j:=by omega
      have iS:upT f z j j=(inA (xA A) i).map u8R:=by
       rw[b5q,hf];have hl:(inA (xA A) i).length=j:=b8b (by rw[a5a ha];exact oC);apply e7s;intro q;rw[e5n,e5n];by_cases hq:q<j
       ·rw[e8v hq,z9e (by omega)];simp only[e5p,e7x,z9e (show q<(inA (xA A) i).length by omega),e7v]
       ·rw[e6n (by simp;omega),e6n (by omega)];rfl
      have gU:=a64 (f:=f) (z:=z) (n:=j) (i:=j);have kU:=jO j;rw[iS]at gU kU;rw[iS];have hp:PatOk c.nodes ⟨some (some j),inA (xA A) i,stR c ord (xA A) i,stA c ord (xA A) i⟩:=⟨by rw[fQ];exact b8b (by rw[a5a ha];exact oC),b9g c ord _ i,λv hv=>by have:=d1y A i v hv;omega,λv hv=>by have:=c1b c ord (xA A) i v hv;omega⟩
      have rO:FlatR [[fn1 c,MI,mS c ord A i]]:=a5v c oJ (a12 _ _);have cw:=λ(d:Bool) (H:a02) (hb:a01 H 0=some (.row 3 [[fn1 c,MI,mS c ord A i]]))=>b8 MI oJ (stA c ord (xA A) i) (stR c ord (xA A) i) (inA (xA A) i) (some j) hp H 0 hb d;have e1:a1p c.outs (gN c ord (inA (xA A) i) (stA c ord (xA A) i))=ouA c ord (xA A) i:=rfl;have e2:a3m (a1r c.nodes (gN c ord (inA (xA A) i) (stA c ord (xA A) i)))=mS c ord A (i+1):=a9a _;have e3:AV.islice ((inA (xA A) i).map u8R) (some j)=mI c A j (i+1):=rfl;rw[e1,e2,e3]at cw;have mU:∀Y:Option AObj,b6o 2 [some (.row 3 [[fn1 c,MI,mS c ord A i]]),some (.row 3 [[AV.int .i64 0,AV.str (cyc a.2 (ouA c ord A i)),AV.int .i64 1]]),Y]=[some (.row 3 [[fn1 c,MI,mS c ord A i]]),some (.row 3 [[AV.int .i64 0,AV.str (cyc a.2 (ouA c ord A i)),AV.int .i64 1]])]:=λY=>by unfold b6o;simp only[List.take_succ_cons,e71,e4r,e5j,e5p,b32,a5b rO,a5b pV]
      have dc:=λm d=>a13 (m:=m) (d:=d) kU;have du:((inA (xA A) i).map u8R).take j=(inA (xA A) i).map u8R:=e5o (by omega)
      (repeat first|simp only[ww]|(apply xa;simp+decide only[go_sem,d2];rfl;kernel_rfl))
      rw[d6p];simp only[e5r,e7l,mU];simp+decide only[go_sem,dc,du,gU];rw[e3];have fI:=λ(d:Bool) (Y:Option AObj)=>cw d [some (.row 3 [[fn1 c,MI,mS c ord A i]]),Y] rfl;simp only[List.set_cons_zero]at fI;have qa:=c02 c A j (i+1);obtain⟨MJ,qb⟩:∃MJ,mI c A j (i+1)=MJ:=⟨_,rfl⟩
      rw[qb]at fI qa⊢;have qc:FlatR [[fn1 c,MJ,mS c ord A (i+1)]]:=a5v c qa (a12 _ _);have dW:=a0j (k:=3) qc;have fG:∀π,a0d π (.row 3 [[fn1 c,MJ,mS c ord A (i+1)]]) = .row 3 [[fn1 c,MJ,mS c ord A (i+1)]]:=λπ=>z9o (FlatO.row (k:=3) qc π);have bQ:∀B i,(ouA c ord B i).length=m:=λB i=>by unfold ouA;rw[a8v,t4]
      have bf:=e4x c ord A i;have ln:=c1n c ord A (i:=i) (λv hv=>by rw[a5a ha]at hv;exact pQ v hv);have j7:=bQ (xA A) i;have rN:=bQ A i;rw[c2d j7 t5]at fI;generalize ouA c ord (xA A) i=O at fI bf j7⊢;generalize ouA c ord A i=W at fI bf rN ln pV jr⊢
      (repeat first|simp only[ww]|(apply xa;simp+decide only[go_sem,fI,c10,j7];rfl;kernel_rfl))
      refine a0m (σ:=Nat) kp26_8 (λq=>[(16,.ptr 0 0 0),(17,.int .i64 j),(18,.nilslice),(19,.int .i64 i),(20,.ptr 1 0 0),(82,.islice ((gdC c ord A).map vcR) (some A.length)),(83,.int .i64 A.length),(84,.int .i64 i),(107,.islice (O.map u8R) (some m)),(108,.int .i64 m),(109,.int .i64 q)])
       (λq=>[some (.row 3 [[fn1 c,MJ,mS c ord A (i+1)]]),some (.row 3 [[AV.int .i64 0,AV.str (cyc a.2 W),AV.int .i64 1]])]) (λq=>m-q) (λq=>q≤m) 0 ?_ (e5q _) ?_
      ·(simp+decide only[go_sem,a03,a00,dW,fG,j7,c10]<;>rfl)<;>rfl
      ·intro q hq;by_cases kh:q<m
       ·have d3:(q:Int)<m:=by omega
        have gR:=wI1 (n:=q) (by omega);have kc:IntKind.i64.wrap ((j:Int)+q)=((j+q:Nat):Int):=by rw[w64 (by omega) (by omega)];omega
        obtain⟨g,hg⟩:∃g,O[q]?=some g:=⟨_,z9e (by omega)⟩
        obtain⟨w,hw⟩:∃w,W[q]?=some w:=⟨_,z9e (by omega)⟩
        have mH:le2 g w:=by have:=bf.getD 0 q;rwa [e7x,e7x,hg,hw]at this
        have qB:=ln w (e12 hw);have fh:=d63 mH qB;have ft:(cyc a.2 W)[j+q]?=some (a4s 76 72 w):=by unfold cyc;rw[e6p (by rw[c10];omega),c10,oC,e9b,e5n,hw];rfl
        have eD:=(e5k.1 ft).1;have kd:u8R g=[.int .u8 g]:=rfl;have cM:(((a4s 76 72 w).toNat=76∧¬((g:Int)=1))∨((a4s 76 72 w).toNat=72∧¬((g:Int)=0)))∨(¬(((a4s 76 72 w).toNat:Int)=76)∧¬(((a4s 76 72 w).toNat:Int)=72)):=by
         have h4:w=0∨w=1∨w=2∨w=3:=by omega
         rcases h4 with rfl|rfl|rfl|rfl
         ·exact .inl (.inl ⟨by decide,λe=>fh (.inl ⟨by decide,by omega⟩)⟩)
         ·exact .inl (.inr ⟨by decide,λe=>fh (.inr ⟨by decide,by omega⟩)⟩)
         ·exact .inr ⟨by decide,by decide⟩
         ·exact .inr ⟨by decide,by decide⟩
        clear fh;generalize a4s 76 72 w=cb at ft cM;rcases cM with (⟨b1,b2⟩|⟨b1,b2⟩)|⟨b1,b2⟩
        ·(repeat first|simp only[ww]|(apply xa;simp+decide only[go_sem,d3,kh,hg,kd,kc,ft,eD,b1,b2,gR];rfl;kernel_rfl))
         refine a28 (q+1) ?_ (by omega) (by omega)
         (simp+decide only[go_sem,a03,a00,dW,fG,j7,c10]<;>rfl)<;>rfl
        ·(repeat first|simp only[ww]|(apply xa;simp+decide only[go_sem,d3,kh,hg,kd,kc,ft,eD,b1,b2,gR];rfl;kernel_rfl))
         refine a28 (q+1) ?_ (by omega) (by omega)
         (simp+decide only[go_sem,a03,a00,dW,fG,j7,c10]<;>rfl)<;>rfl
        ·(repeat first|simp only[ww]|(apply xa;simp+decide only[go_sem,d3,kh,hg,kd,kc,ft,eD,b1,b2,gR];rfl;kernel_rfl))
         refine a28 (q+1) ?_ (by omega) (by omega)
         (simp+decide only[go_sem,a03,a00,dW,fG,j7,c10]<;>rfl)<;>rfl
       ·obtain rfl:q=m:=by omega
        have d3:¬(q:Int)<q:=by omega
        have bt:=wI1 (n:=i) (by omega)
        (repeat first|simp only[ww]|(apply xa;simp+decide only[go_sem,d3,bt];rfl;kernel_rfl))
        refine a28 (i+1) ?_ (by omega) (by omega);simp only[mB,qb]
        (simp+decide only[go_sem,a03,a00,dW,fG]<;>rfl)<;>rfl
   ·obtain rfl:i=A.length:=by omega
    have d1:¬(A.length:Int)<A.length:=by omega
    have jf:=λ(d:Bool) (H:a02)=>c00 (d:=d) H
    (repeat first|simp only[ww]|(apply xa;simp+decide only[go_sem,d1,jf];rfl;kernel_rfl))
    (apply fqb;simp+decide only[go_sem]<;>rfl)<;>rfl
theorem c5f{d:Bool}(H:a02)(c:Cir)(hc:c.wf){k m:Nat}(ht:Tio c k m)(ord:List Nat)(aS:OrdOf c ord)(A:List (Rep×List Nat))(dl:A.length≤8)(hA:∀a∈A,a.2.length=k∧∀v∈a.2,v≤3)(em:∀s∈gdC c ord A,VecOk (sgs k m) s) :
 a09 L.env d (sem L.env Mf) (.func (.func 26) [] []) [.agg c.enc,.agg (a6p (sgs k m) (gdC c ord A)),.nilslice] H=some (.tuple [.nilslice,.int .i64 0],H,List.range H.length):=by
 obtain⟨H1,hr⟩:=d50 c hc ht ord aS A dl hA em;refine a7x (args:=[.agg c.enc,.agg (a6p (sgs k m) (gdC c ord A)),.nilslice]) (aq:=[.agg c.enc,.agg (a6p (sgs k m) (gdC c ord A)),.nilslice]) (by kernel_rfl) (by kernel_rfl) rfl ?_ hr rfl rfl;exact a4h 0 false _ _ (by simp only[a06,a0z,a2v,a4d,b61,a0r,e4t])
theorem c6e(c:Cir)(hc:c.wf){k m:Nat}(ht:Tio c k m)(ord:List Nat)(aS:OrdOf c ord)(A:List (Rep×List Nat))(dl:A.length≤8)(hA:∀a∈A,a.2.length=k∧∀v∈a.2,v≤3)(em:∀s∈gdC c ord A,VecOk (sgs k m) s) :
 sem L.env Mf 27 [.agg c.enc,.agg (a6p (sgs k m) (gdC c ord A)),.nilslice] []=some (.tuple [.bool true,.int .i64 0],[]):=by
 have hr:=λ(d:Bool) (H:a02)=>c5f (d:=d) H c hc ht ord aS A dl hA em;have cU:=a3c k m;obtain⟨V,hV⟩:∃V,a9k (gdC c ord A)=V:=⟨_,rfl⟩
 have j3:refs V=[]:=by rw[←hV];exact a3y _
 have j0:V.storable=true:=by rw[←hV];cases gdC c ord A<;>rfl
 have j4:V.cells=[V]:=by rw[←hV];cases gdC c ord A<;>rfl
 have l8:V.isJunk=false:=by rw[←hV];cases gdC c ord A<;>rfl
 have dK:a6p (sgs k m) (gdC c ord A)=[.islice ((sgs k m).map Sgn.row) (some (k+m)),.islice [tmR] (some 1),V]:=by unfold a6p;rw[cU,hV]
 rw[dK]at hr;rw[dK];simp only[Cir.enc]at hr⊢
 (refine sv Tryz.f27 ?_;simp only[Tryz.f27,gS])
 (repeat first|simp only[ww]|(apply xa;simp+decide only[go_sem,hr,j0,j4,l8];rfl;kernel_rfl))
 (apply fqb;simp+decide only[go_sem]<;>rfl)
theorem b9s{d:Bool}(H:a02)(c:Cir)(hc:c.wf){k m:Nat}(ht:Tio c k m)(ord:List Nat)(aS:OrdOf c ord)(A:List (Rep×List Nat))(dl:A.length≤8)(hA:∀a∈A,a.2.length=k∧∀v∈a.2,v≤3)(em:∀s∈gdC c ord A,VecOk (sgs k m) s) :
 a09 L.env d (sem L.env Mf) (.func (.func 27) [] []) [.agg c.enc,.agg (a6p (sgs k m) (gdC c ord A)),.nilslice] H=some (.tuple [.bool true,.int .i64 0],H,[]):=
 a04 (by kernel_rfl) (by kernel_rfl) rfl (by simp only[e5m,e4t,a06,a0z,a2v,a4d,go_sem]) (c6e c hc ht ord aS A dl hA em) rfl
theorem c7d(x:CX){i:Nat}(h:i<x.k):a0y x.nodes i=0:=by unfold a0y CX.nodes;rw[e4s,e6j (by simpa using h),e85,e6q h];rfl
theorem c7e(x:CX){i:Nat}(h:x.k≤i)(hn:i<x.n):a0y x.nodes i≠0:=by
 have hl:=CX.nodes_len x;obtain⟨nd,bz⟩:∃nd,x.nodes[i]?=some nd:=⟨_,z9e (by omega)⟩
 rw[a1v bz];have jF:=bz;unfold CX.nodes at jF;rw[e4s,e6p (by simpa using h),List.length_replicate]at jF;have cG:=e12 jF;rw[e7h]at cG;rcases cG with hm|hm
 ·unfold CX.dn at hm;obtain⟨v,_,rfl⟩:=e7t.1 hm;show(14:Nat)≠0;omega
 ·obtain⟨q,hq⟩:=List.getElem?_of_mem hm;obtain⟨g,hg⟩:=c81 _ _ _ _ _ hq;have pE:=b8f x.bus g (x.base++((Go.Pc.gN x.bus x.base x.gs).take q).map Nd.kind) (by
   rw[e6k,x.base_len];have:0<x.k:=by unfold CX.k;omega
   omega)
  rw[←hg]at pE;have:=pE.k1;omega
theorem d1i(x:CX):kinds x.nodes 0=List.range x.k:=by
 unfold kinds a2z;have hl:=CX.nodes_len x;have hk:x.n=x.k+(x.n-x.k):=by unfold CX.n;omega
 rw[hl,hk,List.range_add,List.filter_append];have h1:(List.range x.k).filter (λi=>decide (a0y x.nodes i=0))=List.range x.k:=by rw[List.filter_eq_self];intro i hi;simp[c7d x (e8y.1 hi)]
 have h2:((List.range (x.n-x.k)).map (x.k + ·)).filter (λi=>decide (a0y x.nodes i=0))=[]:=by rw[List.filter_eq_nil_iff];intro i hi;obtain⟨j,hj,rfl⟩:=e7t.1 hi;have:=e8y.1 hj;simp[c7e x (i:=x.k+j) (by omega) (by omega)]
 rw[h1,h2,e4t]
theorem d9g(x:CX):Tio (a7z x).cir (a7z x).k (a7z x).outN.length:=by
 have h1:(a7z x).k=x.inn%4+1:=rfl;have h2:(a7z x).outN.length=(x.outs.take 3).length+1:=by show(CX.outN _).length=_;unfold CX.outN;simp[a7z]
 have h3:(x.outs.take 3).length≤3:=List.length_take_le _ _;exact⟨d1i _,by omega,by omega,rfl,by omega,by omega⟩
theorem d7a{v:Nat}(h:v≤3):c9j 0 (a4s 48 49 v):=by
 have:v=0∨v=1∨v=2∨v=3:=by omega
 rcases this with rfl|rfl|rfl|rfl
 ·exact .inl ⟨rfl,.inl (by decide)⟩
 ·exact .inl ⟨rfl,.inr (.inl (by decide))⟩
 ·exact .inl ⟨rfl,.inr (.inr (by decide))⟩
 ·exact .inl ⟨rfl,.inr (.inr (by decide))⟩
theorem d2v{v:Nat}(h:v≤3):c9j 1 (a4s 76 72 v):=by
 have:v=0∨v=1∨v=2∨v=3:=by omega
 rcases this with rfl|rfl|rfl|rfl
 ·exact .inr ⟨rfl,.inl (by decide)⟩
 ·exact .inr ⟨rfl,.inr (.inl (by decide))⟩
 ·exact .inr ⟨rfl,.inr (.inr (by decide))⟩
 ·exact .inr ⟨rfl,.inr (.inr (by decide))⟩
theorem d4v{k m:Nat}{a b:List Nat}(ha:a.length=k)(hb:b.length=m)(l5:∀v∈a,v≤3)(mL:∀v∈b,v≤3):VecOk (sgs k m) (cyc a b):=by
 refine⟨by unfold cyc;rw[e6k,c10,c10,a3c];omega,?_⟩;intro i g y hg hy;unfold sgs at hg;unfold cyc at hy;by_cases h:i<k
 ·rw[e6j (by simpa using h),e5n,e8v h]at hg;rw[e6j (by simp;omega),e5n]at hy;cases hg;obtain⟨v,hv,rfl⟩:=Option.map_eq_some_iff.1 hy;exact d7a (l5 v (e12 hv))
 ·rw[e6p (by simp;omega),e5n]at hg;rw[e6p (by simp;omega),e5n]at hy;obtain⟨j,hj,rfl⟩:=Option.map_eq_some_iff.1 hg;obtain⟨v,hv,rfl⟩:=Option.map_eq_some_iff.1 hy;exact d2v (mL v (e12 hv))
theorem d9b(c:Cir){k m:Nat}(ht:Tio c k m)(ord:List Nat)(A:List (Rep×List Nat))(hA:∀a∈A,a.2.length=k∧∀v∈a.2,v≤3):∀s∈gdC c ord A,VecOk (sgs k m) s:=by
 intro s hs;obtain⟨i,hi⟩:=List.getElem?_of_mem hs;have hl:(gdC c ord A).length=A.length:=b1b (b64 c ord A).symm;have cZ:i<A.length:=by have:=(e5k.1 hi).1;omega
 obtain⟨a,ha⟩:∃a,A[i]?=some a:=⟨_,z9e cZ⟩
 have hc:(gdC c ord A)[i]?=some (cyc a.2 (ouA c ord A i)):=b1c ha (b9t c ord A cZ);rw[hc]at hi;cases hi;obtain⟨h1,h2⟩:=hA a (e12 ha);exact d4v h1 (by unfold ouA;rw[a8v,ht.out]) h2 (c1n c ord A (λv hv=>by rw[a5a ha]at hv;exact h2 v hv))
theorem d79:∀v:Nat,v<4→sem L.env Mf 19 [.int .u8 (a4s 76 72 v).toNat] []=some (.int .u8 (xz v),[]):=e15 (a0i (E:=L.env) a0h 60 (by kernel_rfl)) (a0i (E:=L.env) a0h 60 (by kernel_rfl)) (a0i (E:=L.env) a0h 60 (by kernel_rfl)) (a0i (E:=L.env) a0h 60 (by kernel_rfl))
theorem c8q{d:Bool}(H:a02)(v:Nat)(hv:v≤3):a09 L.env d (sem L.env Mf) (.func (.func 19) [] []) [.int .u8 (a4s 76 72 v).toNat] H=some (.int .u8 (xz v),H,[]):=a04 (by kernel_rfl) (by kernel_rfl) rfl rfl (d79 v (by omega)) rfl
theorem lawGood_ok(lB:∀H,a09 L.env false (sem L.env Mf) (.func (.func 12) [] []) [] H=some (.bool true,H,[]))(x:CX)(hx:x.ok)(pr:Rep)(ps:List Pat)(gn:∀p∈ps,PxOk p)(qO:ps.length<9223372036854775808) :
 sem L.env Mf 6 [.agg x.enc,sl pr (ps.map Pat.enc)] []=some (.bool true,[]):=by
 have bM:=λ(d:Bool) (H:a02)=>c3u (d:=d) H x hx;have ht:=d9g x;have hc:(a7z x).cir.wf:=CX.wf _;obtain⟨ord,aS⟩:=e04 _ hc;have ko:=ht.ins;generalize(a7z x).cir=c at bM ht hc aS ko;generalize(a7z x).k=k at ht ko;generalize(a7z x).outN.length=m at ht;by_cases bV:ps.length≤8
 ·have d0:¬((8:Int)<ps.length):=by omega
  obtain⟨qs,qN,qM,bS⟩:=d1x c hc pr ps gn bV;have fQ:(kinds c.nodes 0).length=k:=by rw[ko];simp
  obtain⟨A,oL⟩:∃A:List (Rep×List Nat),A=qs.map λq=>(q.ic,q.ins):=⟨_,rfl⟩
  have dl:A.length=ps.length:=by rw[oL,c10,qN]
  have rU:qs.map inR=A.map vlR:=by rw[oL,e9g];rfl
  have hA:∀a∈A,a.2.length=k∧∀v∈a.2,v≤3:=λa ha=>by rw[oL]at ha;obtain⟨q,hq,rfl⟩:=e7t.1 ha;have:=qM q hq;exact⟨by rw[←fQ];exact this.1,this.3⟩
  rw[rU]at bS;have jM:=λ(d:Bool) (H:a02)=>c7v (d:=d) H c hc ht ord aS none A (by omega) hA;have jD:=λ(d:Bool) (H:a02)=>b9s (d:=d) H c hc ht ord aS A (by omega) hA (d9b c ht ord A hA);have cz:=λ(d:Bool) (H:a02)=>a89 (d:=d) H c hc;have oy:(a6t c).enc=[sl (a6t c).ic ((a6t c).ins.map u8R),sl (stR c ord A 0) ((stA c ord A 0).map u8R)]:=rfl;rw[oy]at cz;have hO:c.outs≠[]:=by intro e;have:=ht.out;have:=ht.m1;rw[e]at *;simp at *;omega
  have la:=λ(d:Bool) (H:a02) (p:Pat) (hp:PatOk c.nodes p)=>b1l (d:=d) H c hc hO p hp ord aS;have dC:(gdC c ord A).length=A.length:=b1b (b64 c ord A).symm;have cU:=a3c k m;obtain⟨V,hV⟩:∃V,a9k (gdC c ord A)=V:=⟨_,rfl⟩
  have j3:refs V=[]:=by rw[←hV];exact a3y _
  have j0:V.storable=true:=by rw[←hV];cases gdC c ord A<;>rfl
  have j4:V.cells=[V]:=by rw[←hV];cases gdC c ord A<;>rfl
  have l8:V.isJunk=false:=by rw[←hV];cases gdC c ord A<;>rfl
  have pU:∀π,ren π V=V:=λπ=>a1d π _ j3;obtain⟨vr,rJ⟩:∃vr,V=sl vr ((gdC c ord A).map vcR):=by
   rw[←hV];cases gdC c ord A with
   |nil=>exact⟨none,rfl⟩
   |cons a r=>exact⟨some (some (r.length+1)),rfl⟩
  have sA:b3w L.env (λ_=>none) 55 V=b3w L.env (λ_=>none) 55 V:=rfl;have dK:a6p (sgs k m) (gdC c ord A)=[.islice ((sgs k m).map Sgn.row) (some (k+m)),.islice [tmR] (some 1),sl vr ((gdC c ord A).map vcR)]:=by unfold a6p;rw[cU,hV,rJ]
  rw[dK]at jM jD;simp only[Cir.enc,CX.enc]at bM bS jM jD cz la
  (refine sv Tryz.f6 ?_;simp only[Tryz.f6,gS])
  (repeat first|simp only[ww]|(apply xa;simp+decide only[go_sem,bM,bS,jM,jD,cz,d0,c10,dC,dl];rfl;kernel_rfl))
  have fM:∀π:Nat→Option Nat,a0d π (.row 4 [[sl c.nc (c.nodes.map Nd.enc),sl c.mc (c.names.map a3a),.nilslice,sl c.oc (c.outs.map a0s)]]) = .row 4 [[sl c.nc (c.nodes.map Nd.enc),sl c.mc (c.names.map a3a),.nilslice,sl c.oc (c.outs.map a0s)]]:=λπ=>by simp+decide only[go_sem]
  have fY:a0t (some (.row 4 [[sl c.nc (c.nodes.map Nd.enc),sl c.mc (c.names.map a3a),.nilslice,sl c.oc (c.outs.map a0s)]]))=[]:=by simp+decide only[go_sem]
  obtain⟨P,hP⟩:∃P,[AV.islice ((sgs k m).map Sgn.row) (some (k+m)),.islice [tmR] (some 1),sl vr ((gdC c ord A).map vcR)]=P:=⟨_,rfl⟩
  have oI:a0a P=[]:=by rw[←hP];simp only[a06,a6c,a12,a0r,e4t]
  have p8:FlatR [P]:=FlatR.cons oI FlatR.nil;have iH:=a0j (k:=3) p8;have gK:∀π,a0d π (.row 3 [P]) = .row 3 [P]:=λπ=>z9o (FlatO.row (k:=3) p8 π);rw[←hP]at iH gK;refine a0m (σ:=Nat) kp6_0 (λi=>[(5,.ptr 0 0 0),(6,sl none (A.map vlR)),(7,.ptr 1 0 0),(11,sl (stR c ord A i) ((stA c ord A i).map u8R)),(12,.int .i64 i)]) (λi=>[some (.row 4 [[sl c.nc (c.nodes.map Nd.enc),sl c.mc (c.names.map a3a),.nilslice,sl c.oc (c.outs.map a0s)]]),some (.row 3 [[AV.islice ((sgs k m).map Sgn.row) (some (k+m)),.islice [tmR] (some 1),sl vr ((gdC c ord A).map vcR)]])]) (λi=>A.length-i) (λi=>i≤A.length) 0 ?_ (e5q _) ?_
  ·(simp+decide only[go_sem,a03,a00,fM,fY,gK,iH]<;>rfl)<;>rfl
  ·intro i hi;by_cases ak:i<A.length
   ·have d1:(i:Int)<ps.length:=by omega
    have bA:i<ps.length:=by omega
    have bt:=wI1 (n:=i) (by omega);obtain⟨a,ha⟩:∃a,A[i]?=some a:=⟨_,z9e ak⟩
    obtain⟨a1,a2⟩:=hA a (e12 ha);have fW:vlR a=[sl a.1 (a.2.map u8R)]:=rfl;have hp:PatOk c.nodes ⟨a.1,a.2,stR c ord A i,stA c ord A i⟩:=⟨by rw[fQ];exact a1,b9g c ord A i,a2,λv hv=>by have:=c1b c ord A i v hv;omega⟩
    have hr:=λ(d:Bool) (H:a02)=>la d H _ hp;have e1:a1p c.outs (gN c ord a.2 (stA c ord A i))=ouA c ord A i:=by unfold ouA;rw[a5a ha]
    have e2:a1r c.nodes (gN c ord a.2 (stA c ord A i))=stA c ord A (i+1):=by show _=a1r c.nodes (gN c ord (inA A i) (stA c ord A i));rw[a5a ha]
    simp only[Pat.enc,e1,e2]at hr;have e3:a3m (stA c ord A (i+1))=sl (stR c ord A (i+1)) ((stA c ord A (i+1)).map u8R):=a9a _;have bQ:(ouA c ord A i).length=m:=by unfold ouA;rw[a8v,ht.out]
    have ln:=c1n c ord A (i:=i) (λv hv=>by rw[a5a ha]at hv;exact a2 v hv);unfold b9o at hr;rw[e3,c2d bQ ht.m1]at hr;have jr:(gdC c ord A)[i]?=some (cyc a.2 (ouA c ord A i)):=b1c ha (b9t c ord A ak);have b8:(cyc a.2 (ouA c ord A i)).length=k+m:=by unfold cyc;rw[e6k,c10,c10,a1,bQ]
    have bU:∀s,vcR s=[.int .i64 0,.str s,.int .i64 1]:=λs=>rfl;have qy:=w64 (n:=(k:Int)+m) (by have:=ht.k4;omega) (by have:=ht.k4;have:=ht.m4;omega);have sm:=ht.k4;have nO:=ht.m4;have cw:((k+m:Nat):Int)=(k:Int)+m:=by omega
    generalize(gN c ord a.2 (stA c ord A i)).map u8R=GN at hr;generalize ouA c ord A i=O at hr bQ ln jr b8
    (repeat first|simp only[ww]|(apply xa;simp+decide only[go_sem,d1,ak,bA,ha,fW,hr,jr,bU,b8,bQ,a1,qy,cw,dC,dl,c10];rfl;kernel_rfl))
    obtain⟨R,hR⟩:∃R,[AV.islice (O.map u8R) (some m),sl (stR c ord A (i+1)) ((stA c ord A (i+1)).map u8R)]=R:=⟨_,rfl⟩
    have rM:a0a R=[]:=by rw[←hR];simp only[a06,a6c,a12,a0r,e4t]
    have pZ:FlatR [R]:=FlatR.cons rM FlatR.nil;have ma:=a0j (k:=2) pZ;have jk:∀π,a0d π (.row 2 [R]) = .row 2 [R]:=λπ=>z9o (FlatO.row (k:=2) pZ π);rw[←hR]at ma jk;refine a0m (σ:=Nat) kp6_2 (λq=>[(5,.ptr 0 0 0),(6,sl none (A.map vlR)),(7,.ptr 1 0 0),(12,.int .i64 i),(13,.ptr 2 0 0),(16,.int .i64 q)]) (λq=>[some (.row 4 [[sl c.nc (c.nodes.map Nd.enc),sl c.mc (c.names.map a3a),.nilslice,sl c.oc (c.outs.map a0s)]]),some (.row 3 [[AV.islice ((sgs k m).map Sgn.row) (some (k+m)),.islice [tmR] (some 1),sl vr ((gdC c ord A).map vcR)]]),some (.row 2 [[AV.islice (O.map u8R) (some m),sl (stR c ord A (i+1)) ((stA c ord A (i+1)).map u8R)]])]) (λq=>m-q) (λq=>q≤m) 0 ?_ (e5q _) ?_
    ·(simp+decide only[go_sem,a03,a00,fM,fY,gK,iH,jk,ma]<;>rfl)<;>rfl
    ·intro q hq;by_cases kh:q<m
     ·have d3:(q:Int)<m:=by omega
      have gR:=wI1 (n:=q) (by omega);have kc:IntKind.i64.wrap ((k:Int)+q)=((k+q:Nat):Int):=by rw[w64 (by omega) (by omega)];omega
      obtain⟨v,hv⟩:∃v,O[q]?=some v:=⟨_,z9e (by omega)⟩
      have qC:=ln v (e12 hv);have kd:∀w,u8R w=[.int .u8 w]:=λw=>rfl;have ft:(cyc a.2 O)[k+q]?=some (a4s 76 72 v):=by unfold cyc;rw[e6p (by rw[c10];omega),c10,a1,e9b,e5n,hv];rfl
      have eD:k+q<k+m:=by omega
      have jg:=λ(d:Bool) (H:a02)=>c8q (d:=d) H v qC;by_cases h3:v=3
      ·have b1:(v:Int)=3:=by omega
       have nh:((xz v:Nat):Int)=2:=by rw[h3];rfl
       rw[nh]at jg
       (repeat first|simp only[ww]|(apply xa;simp+decide only[go_sem,d3,kh,ak,bA,ha,fW,jr,bU,b8,bQ,a1,hv,kd,kc,ft,eD,jg,b1,gR,dC,dl,c10];rfl;kernel_rfl))
       refine a28 (q+1) ?_ (by omega) (by omega)
       (simp+decide only[go_sem,a03,a00,fM,fY,gK,iH,jk,ma]<;>rfl)<;>rfl
      ·have b1:¬((v:Int)=3):=by omega
       have nh:((xz v:Nat):Int)=v:=by
        have:v=0∨v=1∨v=2:=by omega
        rcases this with rfl|rfl|rfl<;>rfl
       rw[nh]at jg
       (repeat first|simp only[ww]|(apply xa;simp+decide only[go_sem,d3,kh,ak,bA,ha,fW,jr,bU,b8,bQ,a1,hv,kd,kc,ft,eD,jg,b1,gR,dC,dl,c10];rfl;kernel_rfl))
       refine a28 (q+1) ?_ (by omega) (by omega)
       (simp+decide only[go_sem,a03,a00,fM,fY,gK,iH,jk,ma]<;>rfl)<;>rfl
     ·obtain rfl:q=m:=by omega
      have d3:¬(q:Int)<q:=by omega
      (repeat first|simp only[ww]|(apply xa;simp+decide only[go_sem,d3,bQ,bt,c10];rfl;kernel_rfl))
      refine a28 (i+1) ?_ (by omega) (by omega)
      (simp+decide only[go_sem,a03,a00,fM,fY,gK,iH,jk,ma]<;>rfl)<;>rfl
   ·obtain rfl:i=A.length:=by omega
    have d1:¬((ps.length:Int)<ps.length):=by omega
    (repeat first|simp only[ww]|(apply xa;simp+decide only[go_sem,d1,lB,dl,c10];rfl;kernel_rfl))
    (apply fqb;simp+decide only[go_sem]<;>rfl)
 ·have d0:(8:Int)<ps.length:=by omega
  (refine sv Tryz.f6 ?_;simp only[Tryz.f6,gS])
  (repeat first|simp only[ww]|(apply xa;simp+decide only[go_sem,d0,lB,c10];rfl;kernel_rfl))
  (apply fqb;simp+decide only[go_sem]<;>rfl)
end Go.UInst
