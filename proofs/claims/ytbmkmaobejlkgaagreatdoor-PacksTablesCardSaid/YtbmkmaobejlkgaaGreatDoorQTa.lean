/- Part of a proof. No condition. -/
import Derived.Test.YtbmkmaobejlkgaaGreatDoorQNe
import Derived.Test.YtbmkmaobejlkgaaGreatDoorQGa
import Derived.Test.YtbmkmaobejlkgaaGreatDoorAxD
import Derived.Test.YtbmkmaobejlkgaaGreatDoorQPk
import Derived.Test.YtbmkmaobejlkgaaGreatDoorQIn
import Derived.Test.YtbmkmaobejlkgaaGreatDoorQMg
import Derived.Test.YtbmkmaobejlkgaaGreatDoorPcB
set_option linter.unusedSimpArgs false
set_option linter.unusedVariables false
namespace Go.QInst
set_option maxHeartbeats 200000000
open Go.Proofs Go.Ax Go.Pc
set_option maxRecDepth 100000
theorem b0y(l:List Flt):(l.map Flt.enc).flatMap a08=[]:=a0e (FlatR.map λ_=>rfl)
theorem b2x(π:Nat→Option Nat)(l:List Flt):(l.map Flt.enc).map (λr=>r.map (ren π))=l.map Flt.enc:=a0b π (FlatR.map λ_=>rfl)
theorem d86(l:List Pat):FlatR (l.map Pat.enc):=FlatR.map λ_=>by simp only[Pat.enc,go_sem]
theorem b8e(l:List Pat):(l.map Pat.enc).flatMap a08=[]:=a0e (d86 l)
theorem b9q(π:Nat→Option Nat)(l:List Pat):(l.map Pat.enc).map (λr=>r.map (ren π))=l.map Pat.enc:=a0b π (d86 l)
theorem c82(c:Cir)(h:c.wf)(rl rt:Rep)(l:List Flt)(tests:List Pat)(hl:l.length≤65536)(ht:tests.length≤4096)(hf:∀f∈l,FltOk c.nodes f)(hp:∀p∈tests,PatOk c.nodes p) :
 sem L.env Mf 34 [.agg c.enc,sl rl (l.map Flt.enc),sl rt (tests.map Pat.enc)] []=some (.int .i64 0,[]):=by
 have c1:¬(65536:Int)<l.length:=by omega
 have c2:¬(4096:Int)<tests.length:=by omega
 have hn:=h.len;have bG:=λ(d:Bool) (H:a02)=>a92 (d:=d) H c h;have h15:kinds c.nodes 15=[]:=by unfold kinds a3b;rw[List.filter_eq_nil_iff];intro i hi;have cW:=f6z.1 hi;have:=h.kind _ (List.getElem_mem cW);rw[a15 (z9e cW)];simp only[f0l];omega
 have oN:=λ(d:Bool) (X:Option AObj)=>b26 (d:=d) (H:=[X,some (.row 1 [[.int .u8 15]])]) (b:=1) c (k:=15) rfl (by omega) rfl;rw[h15]at oN;have eh:b55 [] = .nilslice:=rfl;rw[eh]at oN;have ln:=λH f hf=>b47 (d:=false) H c h f hf;have rx:=λH p hp=>c1y (d:=false) H c h p hp;simp only[Cir.enc]at bG oN ln rx⊢
 (refine sv Tryz.f34 ?_;simp only[Tryz.f34,gS])
 (repeat first|simp only[ww]|(apply xa;simp+decide only[go_sem,c1,c2,bG,oN,c11];rfl;kernel_rfl))
 refine a1j (σ:=Nat) kp34_1 (λi=>[(2,sl rt (tests.map Pat.enc)),(3,.ptr 0 0 0),(40,sl rl (l.map Flt.enc)),(41,.int .i64 l.length),(42,.int .i64 i)])
  (λi=>[some (.row 4 [[sl c.nc (c.nodes.map Nd.enc),sl c.mc (c.names.map a1s),.nilslice,sl c.oc (c.outs.map a0d)]])]) (λi=>l.length-i) (λi=>i≤l.length) 0 ?_ (f0h _) ?_
 ·(simp+decide only[go_sem,a03,a00,b0y,b2x,b8e,b9q]<;>rfl)
 ·intro i hi;by_cases ag:i<l.length
  ·obtain⟨f,hx⟩:∃f,l[i]?=some f:=⟨_,z9e ag⟩
   have sb:=hf f (c10 hx);have c3:(i:Int)<l.length:=by omega
   have hw:=wI1 (n:=i) (by omega);have gi:=λH=>ln H f sb;have c4:¬(f.model:Int)=1:=by rcases sb.model with e|e|e<;>omega
   simp only[Flt.enc]at gi
   (repeat first|simp only[ww]|(apply xa;simp+decide only[go_sem,c3,ag,hx,hw,gi,c4,Flt.enc];rfl;kernel_rfl))
   refine a4g (i+1) ?_ (by omega) (by omega)
   (simp+decide only[go_sem,a03,a00,b0y,b2x,b8e,b9q]<;>rfl)
  ·obtain rfl:i=l.length:=by omega
   have c3:¬(l.length:Int)<l.length:=by omega
   (repeat first|simp only[ww]|(apply xa;simp+decide only[go_sem,c3,c11];rfl;kernel_rfl))
   refine a1j (σ:=Nat) kp34_3 (λi=>[(3,.ptr 0 0 0),(56,sl rt (tests.map Pat.enc)),(57,.int .i64 tests.length),(58,.int .i64 i)])
    (λi=>[some (.row 4 [[sl c.nc (c.nodes.map Nd.enc),sl c.mc (c.names.map a1s),.nilslice,sl c.oc (c.outs.map a0d)]])]) (λi=>tests.length-i) (λi=>i≤tests.length) 0 ?_ (f0h _) ?_
   ·(simp+decide only[go_sem,a03,a00,b0y,b2x,b8e,b9q]<;>rfl)
   ·intro i hi;by_cases ag:i<tests.length
    ·obtain⟨p,hx⟩:∃p,tests[i]?=some p:=⟨_,z9e ag⟩
     have oL:=hp p (c10 hx);have c3:(i:Int)<tests.length:=by omega
     have hw:=wI1 (n:=i) (by omega);have gi:=λH=>rx H p oL;simp only[Pat.enc]at gi
     (repeat first|simp only[ww]|(apply xa;simp+decide only[go_sem,c3,ag,hx,hw,gi,Pat.enc];rfl;kernel_rfl))
     refine a4g (i+1) ?_ (by omega) (by omega)
     (simp+decide only[go_sem,a03,a00,b0y,b2x,b8e,b9q]<;>rfl)
    ·obtain rfl:i=tests.length:=by omega
     have c3:¬(tests.length:Int)<tests.length:=by omega
     (repeat first|simp only[ww]|(apply xa;simp+decide only[go_sem,c3];rfl;kernel_rfl))
     (apply fqb;simp+decide only[go_sem,b2x,b9q]<;>rfl)
theorem c1s{d:Bool}(H:a02)(c:Cir)(h:c.wf)(rl rt:Rep)(l:List Flt)(tests:List Pat)(hl:l.length≤65536)(ht:tests.length≤4096)(hf:∀f∈l,FltOk c.nodes f)(hp:∀p∈tests,PatOk c.nodes p) :
 a09 L.env d (sem L.env Mf) (.func (.func 34) [] []) [.agg c.enc,sl rl (l.map Flt.enc),sl rt (tests.map Pat.enc)] H=some (.int .i64 0,H,[]):=
 a04 (by kernel_rfl) (by kernel_rfl) rfl (by simp only[e9q,e9n,a0c,a33,a3r];exact a9i c) (c82 c h rl rt l tests hl ht hf hp) rfl
/- a cube -/
def mnP(q:List Nat)(k:Nat):List Nat:=(q.take k).map (λv=>min v 2)++q.drop k
theorem e4y(q:List Nat):mnP q 0=q:=by simp[mnP]
theorem c9o(q:List Nat):mnP q q.length=q.map (λv=>min v 2):=by simp[mnP]
theorem c2f(q:List Nat)(k:Nat):(mnP q k).length=q.length:=by simp[mnP];omega
theorem d7u{q:List Nat}{k v:Nat}(h:q[k]?=some v):(mnP q k)[k]?=some v:=by have hk:=(e9k.1 h).1;unfold mnP;rw[f1n (by simp;omega)];simp only[c11,f3f,f6i];rw[←h];congr 1;omega
theorem e4x{q:List Nat}{k v:Nat}(h:q[k]?=some v):mnP q (k+1)=(mnP q k).set k (min v 2):=by
 have hk:=(e9k.1 h).1;apply f3g;intro j;rw[f2v,c2f];by_cases hj:k=j
 ·subst hj;rw[f1r rfl,f1r hk];unfold mnP;rw[f0i (by simp;omega),f0d,f4r,f1r (by omega),h];rfl
 ·rw[f0j hj];unfold mnP;by_cases hl:j<k
  ·rw[f0i (by simp;omega),f0i (by simp;omega),f0d,f0d,f4r,f4r,f1r (by omega),f1r hl]
  ·rw[f1n (by simp;omega),f1n (by simp;omega)];simp only[c11,f3f,f6i]
   congr 1;omega
theorem e18(c:Cir)(hc:c.wf)(hk:kinds c.nodes 0≠[])(p:Pat)(hp:PxOk p) :
 ∃r:AV×a02,(∃a b:List Nat,a.length=(kinds c.nodes 0).length∧b.length=(kinds c.nodes 14).length∧(∀v∈a,v≤2)∧(∀v∈b,v≤2)∧r=(.agg [sl none (a.map u8R),sl none (b.map u8R)],[]))∧
 sem L.env Mf 9 [.agg c.enc,.agg p.enc] []=some r:=by
 obtain⟨a,b,aX,cN,ae⟩:=c96 c hc hk p hp;have uD:=hc.len;have bw:=a3h c.nodes 0;obtain⟨x,a',rfl⟩:∃x a',a=x::a':=by
  cases a with
  |nil=>have:=aX.ins;exact absurd (f6n this.symm) hk
  |cons x r=>exact⟨x,r,rfl⟩
 have eE:=aX.ins;have sm:=aX.inv;obtain⟨A,hA⟩:∃A,x::a'=A:=⟨_,rfl⟩
 rw[hA]at ae eE sm;have sI:A≠[]:=by rw[←hA];simp
 dsimp only at eE sm;have nP:=b9p;have gm:=c0r;simp only[Cir.enc,Pat.enc]at ae⊢
 (refine svE Tryz.f9 ?_;simp only[Tryz.f9,gS])
 cases b with
 |nil=>
  simp only[ptH,e9p,a0q,a0r,e9n]at ae
  (repeat first|simp only[ww]|(apply xa;simp+decide only[go_sem,ae];rfl;kernel_rfl))
  refine a1j (σ:=Nat) kp9_0 (λi=>[(4,.ptr 0 0 0),(5,.ptr 1 0 0),(6,.int .i64 i)]) (λi=>[some (.row 2 [[.nilslice,.nilslice]]),some (.row 2 [[.slice 2 0 A.length none,.nilslice]]),some (.row 1 ((mnP A i).map u8R))]) (λi=>A.length-i) (λi=>i≤A.length) 0 ?_ (f0h _) ?_
  ·rw[e4y]
   (simp+decide only[go_sem,a03,a00,gm,nP,c11]<;>rfl)<;>rfl
  ·intro i hi;have cJ:=c2f A i;by_cases ag:i<A.length
   ·obtain⟨v,hv⟩:∃v,A[i]?=some v:=⟨_,z9e ag⟩
    have fJ:=d7u hv;have eH:=e4x hv;have c1:(i:Int)<A.length:=by omega
    have hw:=wI1 (n:=i) (by omega);have pu:∀v,u8R v=[.int .u8 v]:=λ_=>rfl;have eY:(if(2:Int)<(v:Int)then(2:Int)else(v:Int))=((min v 2:Nat):Int):=by split<;>omega
    have aw:((mnP A i).map u8R).set i [AV.int .u8 ((min v 2:Nat):Int)]=(mnP A (i+1)).map u8R:=by rw[eH,f3y];rfl
    (repeat first|simp only[ww]|(apply xa;simp+decide only[go_sem,c1,ag,fJ,pu,hw,cJ,eY,aw,c11];rfl;kernel_rfl))
    refine a4g (i+1) ?_ (by omega) (by omega)
    (simp+decide only[go_sem,a03,a00,gm,nP,c11]<;>rfl)<;>rfl
   ·obtain rfl:i=A.length:=by omega
    have c1:¬(A.length:Int)<A.length:=by omega
    (repeat first|simp only[ww]|(apply xa;simp+decide only[go_sem,c1,cJ,c11];rfl;kernel_rfl))
    rw[c9o];have eM:=λm d=>d5f (m:=m) (d:=d) (A.map λv=>min v 2);have fg:((A.map λv=>min v 2).map u8R).take A.length=(A.map λv=>min v 2).map u8R:=f0f (by simp);have jL:(A.map λv=>min v 2)≠[]:=by intro e;exact sI (f7e.1 e)
    have ep:sl none ((A.map λv=>min v 2).map u8R) = .islice ((A.map λv=>min v 2).map u8R) none:=b5l (by intro e;exact jL (f7e.1 e));refine a1v (vs:=[.agg [.slice 2 0 A.length none,.nilslice]]) (r:=(.agg [.islice ((A.map λv=>min v 2).map u8R) none,.nilslice],[])) (by simp+decide only[go_sem]<;>rfl) ?_ ⟨A.map λv=>min v 2,[],by simpa using eE,aX.sts,λv hv=>?_,cN,by rw[ep];rfl⟩
    ·show a10 false 0 _ _=_;simp+decide only[go_sem,eM,fg,d5f,c11]
    ·obtain⟨w,_,rfl⟩:=f4l.1 hv;show min w 2≤2;omega
 |cons y b'=>
  simp only[ptH,e12,a06,a07,f0k,e9q,c11]at ae;have kB:u8R y=[AV.int .u8 y]:=rfl;rw[kB]at ae;have nS:=gm b';have nQ:=λπ=>nP π b'
  (repeat first|simp only[ww]|(apply xa;simp+decide only[go_sem,ae];rfl;kernel_rfl))
  refine a1j (σ:=Nat) kp9_0 (λi=>[(4,.ptr 0 0 0),(5,.ptr 1 0 0),(6,.int .i64 i)]) (λi=>[some (.row 2 [[.nilslice,.nilslice]]),some (.row 2 [[.slice 2 0 A.length none,.slice 3 0 (b'.length+1) none]]),some (.row 1 ((mnP A i).map u8R)),some (.row 1 ([AV.int .u8 y]::b'.map u8R))]) (λi=>A.length-i) (λi=>i≤A.length) 0 ?_ (f0h _) ?_
  ·rw[e4y]
   (simp+decide only[go_sem,a03,a00,gm,nP,nS,nQ,c11]<;>rfl)<;>rfl
  ·intro i hi;have cJ:=c2f A i;by_cases ag:i<A.length
   ·obtain⟨v,hv⟩:∃v,A[i]?=some v:=⟨_,z9e ag⟩
    have fJ:=d7u hv;have eH:=e4x hv;have c1:(i:Int)<A.length:=by omega
    have hw:=wI1 (n:=i) (by omega);have pu:∀v,u8R v=[.int .u8 v]:=λ_=>rfl;have eY:(if(2:Int)<(v:Int)then(2:Int)else(v:Int))=((min v 2:Nat):Int):=by split<;>omega
    have aw:((mnP A i).map u8R).set i [AV.int .u8 ((min v 2:Nat):Int)]=(mnP A (i+1)).map u8R:=by rw[eH,f3y];rfl
    (repeat first|simp only[ww]|(apply xa;simp+decide only[go_sem,c1,ag,fJ,pu,hw,cJ,eY,aw,c11];rfl;kernel_rfl))
    refine a4g (i+1) ?_ (by omega) (by omega)
    (simp+decide only[go_sem,a03,a00,gm,nP,nS,nQ,c11]<;>rfl)<;>rfl
   ·obtain rfl:i=A.length:=by omega
    have c1:¬(A.length:Int)<A.length:=by omega
    (repeat first|simp only[ww]|(apply xa;simp+decide only[go_sem,c1,cJ,c11];rfl;kernel_rfl))
    rw[c9o];have eM:=λm d=>d5f (m:=m) (d:=d) (A.map λv=>min v 2);have fg:((A.map λv=>min v 2).map u8R).take A.length=(A.map λv=>min v 2).map u8R:=f0f (by simp);have jL:(A.map λv=>min v 2)≠[]:=by intro e;exact sI (f7e.1 e)
    have ep:sl none ((A.map λv=>min v 2).map u8R) = .islice ((A.map λv=>min v 2).map u8R) none:=b5l (by intro e;exact jL (f7e.1 e));refine a1v (vs:=[.agg [.slice 2 0 A.length none,.slice 3 0 (b'.length+1) none]]) (r:=(.agg [.islice ((A.map λv=>min v 2).map u8R) none,.islice ((y::b').map u8R) none],[])) (by simp+decide only[go_sem]<;>rfl) ?_ ⟨A.map λv=>min v 2,y::b',by simpa using eE,aX.sts,λv hv=>?_,cN,by rw[ep];rfl⟩
    ·show a10 false 0 _ _=_;simp+decide only[go_sem,eM,fg,d5f,e12,c11]
    ·obtain⟨w,_,rfl⟩:=f4l.1 hv;show min w 2≤2;omega
theorem d1n(c:Cir)(hc:c.wf)(hk:kinds c.nodes 0≠[])(p:Pat)(hp:PxOk p):∃a b:List Nat,a.length=(kinds c.nodes 0).length∧b.length=(kinds c.nodes 14).length∧(∀v∈a,v≤2)∧(∀v∈b,v≤2)∧
 ∀(d:Bool) (H:a02),a09 L.env d (sem L.env Mf) (.func (.func 9) [] []) [.agg c.enc,.agg p.enc] H=some (.agg [sl none (a.map u8R),sl none (b.map u8R)],H,[]):=by
 obtain⟨r,⟨a,b,h1,h2,h3,h4,rfl⟩,h⟩:=e18 c hc hk p hp;exact⟨a,b,h1,h2,h3,h4,λd H=>a04 (by kernel_rfl) (by kernel_rfl) rfl (by simp only[a0c,a1a,Cir.enc,Pat.enc,go_sem]) h (by simp only[a1a,go_sem])⟩
def dts(D:Nat→Bool)(t:Nat):List Nat:=(List.range t).filter D
theorem e5w(D:Nat→Bool)(t:Nat):dts D (t+1)=dts D t++if D t then[t]else[]:=by
 unfold dts;rw[List.range_succ,List.filter_append]
 congr 1
 cases h:D t<;>simp[h]
theorem c4t(D:Nat→Bool)(t:Nat):(dts D t).length≤t:=by have:=List.length_filter_le D (List.range t);rw[f3b]at this;exact this
def a9h(D:Nat→Nat→Bool)(n nt i t:Nat):List (List (List AV)):=(List.range n).map λj=>if j<i then(dts (D j) nt).map a0d else if j=i then(dts (D i) t).map a0d else[]
def b21(D:Nat→Nat→Bool)(nt i:Nat):Nat→Option Nat:=λj=>if j<i then some (dts (D j) nt).length else none
section
variable (D:Nat→Nat→Bool)(n nt i t:Nat)
theorem a4a:(a9h D n nt i t).length=n:=by simp[a9h]
theorem a9g{j:Nat}(h:j<n):(a9h D n nt i t)[j]?=some (if j<i then(dts (D j) nt).map a0d else if j=i then(dts (D i) t).map a0d else[]):=by unfold a9h;rw[f0d,List.getElem?_range h];rfl
theorem c81(h:i<n):(a9h D n nt i t)[i]?=some ((dts (D i) t).map a0d):=by rw[a9g D n nt i t h,f0j (Nat.lt_irrefl i),f1r rfl]
theorem c3n(h:i<n)(l:List (List AV))(hl:l=(dts (D i) (t+1)).map a0d):(a9h D n nt i t).set i l=a9h D n nt i (t+1):=by
 subst hl;apply f3g;intro j;rw[f2v];by_cases hj:i=j
 ·subst hj;rw[f1r rfl,a4a,f1r h,c81 D n nt i (t+1) h]
 ·rw[f0j hj];by_cases rT:j<n
  ·rw[a9g D n nt i t rT,a9g D n nt i (t+1) rT];by_cases h1:j<i
   ·rw[f1r h1,f1r h1]
   ·rw[f0j h1,f0j h1,f0j (f4j hj),f0j (f4j hj)]
  ·rw[f2n (by rw[a4a];omega),f2n (by rw[a4a];omega)]
theorem c7z:a9h D n nt i nt=a9h D n nt (i+1) 0:=by
 unfold a9h;apply f3h;intro j _;by_cases h1:j<i
 ·rw[f1r h1,f1r (by omega)]
 ·rw[f0j h1];by_cases h2:j=i
  ·subst h2;rw[f1r rfl,f1r (by omega)]
  ·rw[f0j h2,f0j (by omega)];by_cases h3:j=i+1
   ·subst h3;rw[f1r rfl];rfl
   ·rw[f0j h3]
theorem c80:a9h D n nt 0 0=List.replicate n []:=by
 apply f3g;intro j;by_cases h:j<n
 ·rw[a9g D n nt 0 0 h,f3m,f1r h,f0j (by omega)];split
  ·subst_vars;rfl
  ·rfl
 ·rw[f2n (by rw[a4a];omega),f2n (by simp;omega)]
theorem e3r:b21 D nt 0=λ_=>none:=by funext j;simp[b21]
theorem e3q:(λj=>if j=i then some (dts (D i) nt).length else b21 D nt i j)=b21 D nt (i+1):=by
 funext j
 unfold b21;by_cases h1:j=i
 ·subst h1;simp
 ·by_cases h2:j<i
  ·simp[h1,h2,show j<i+1 by omega]
  ·simp[h1,h2,show ¬j<i+1 by omega]
theorem d3e:((a9h D n nt n 0).mapIdx λj f=>[slF (b21 D nt n j) f])=(List.range n).map λj=>[lsV (dts (D j) nt)]:=by
 apply f3g;intro j;rw[f1t,f0d];by_cases h:j<n
 ·rw[a9g D n nt n 0 h,List.getElem?_range h,f1r h];simp only[f0e];unfold b21;rw[f1r h];cases dts (D j) nt with
  |nil=>rfl
  |cons a r=>simp[lsV,slF]
 ·rw[f2n (by rw[a4a];omega),f2n (by simp;omega)];rfl
end
theorem c7w(H:a02)(n b:Nat)(h:a01 H b=some (.row 1 (List.replicate n [.nilslice]))):Two H b 1 (λ_=>0) (λ_=>none) (List.replicate n []):=by
 have bU:∀(j:Nat) (f:List (List AV)),(List.replicate n ([]:List (List AV)))[j]?=some f→f=[]:=by
  intro j f hf;rw[f3m]at hf;split at hf
  ·cases hf;rfl
  ·cases hf
 refine⟨?_,λj f hf au=>absurd (bU j f hf) au,λi j f g hf _ au=>absurd (bU i f hf) au,λf hf=>?_⟩
 ·rw[h]
  congr 2
  apply f3g;intro j;unfold a24;rw[f1t,f3m,f3m];split<;>rfl
 ·rw[(List.mem_replicate.1 hf).2];exact FlatR.nil
theorem c95(c:Cir)(hc:c.wf)(hO:c.outs≠[])(ord:List Nat)(aP:OrdOf c ord)(rl rt:Rep)(l:List Flt)(tests:List Pat)(hl:l.length≤1000)(ht:tests.length≤1000)(hf:∀f∈l,FltOk c.nodes f)(hp:∀p∈tests,PatOk c.nodes p)
 (D:Nat→Nat→Bool)(hD:∀(i t:Nat) (f:Flt) (p:Pat),l[i]?=some f→tests[t]?=some p→D i t=(b4z c ord).det f p) :
 ∃r:AV×a02,(r=(.tuple [.islice ((List.range l.length).map λj=>[lsV (dts (D j) tests.length)]) (some l.length),.int .i64 0],[]))∧sem L.env Mf 10 [.agg c.enc,sl rl (l.map Flt.enc),sl rt (tests.map Pat.enc)] []=some r:=by
 have bG:=λ(d:Bool) (H:a02)=>c1s (d:=d) H c hc rl rt l tests (by omega) (by omega) hf hp;have bp:=λ(d:Bool) (H:a02) (f:Flt) (hf:FltOk c.nodes f) (p:Pat) (hp:PatOk c.nodes p)=>b1m (d:=d) H c hc hO p hp f hf ord aP;have aO:l.length≤1000000000:=by omega
 have mq:FlatR [[sl c.nc (c.nodes.map Nd.enc),sl c.mc (c.names.map a1s),.nilslice,sl c.oc (c.outs.map a0d)]]:=FlatR.cons (a9i c) FlatR.nil;simp only[Cir.enc]at bG bp⊢
 (refine svE Tryz.f10 ?_;simp only[Tryz.f10,gS])
 (repeat first|simp only[ww]|(apply xa;simp+decide only[go_sem,bG,aO,c11];rfl;kernel_rfl))
 refine a1x kp10_0 (λN F H=>∃(i cb b:Nat) (al:Nat→Nat),N=l.length-i∧i≤l.length∧F=[(2,sl rt (tests.map Pat.enc)),(3,.ptr cb 0 0),(9,.slice b 0 l.length (some l.length)),(26,sl rl (l.map Flt.enc)),(27,.int .i64 l.length),(28,.int .i64 i)]∧a01 H cb=some (.row 4 [[sl c.nc (c.nodes.map Nd.enc),sl c.mc (c.names.map a1s),.nilslice,sl c.oc (c.outs.map a0d)]])∧Two H b 1 al (b21 D tests.length i) (a9h D l.length tests.length i 0)) l.length ?_ ?_
 ·have sA:=c7w [some (.row 4 [[sl c.nc (c.nodes.map Nd.enc),sl c.mc (c.names.map a1s),.nilslice,sl c.oc (c.outs.map a0d)]]),some (.row 1 (List.replicate l.length [.nilslice]))] l.length 1 rfl;rw[←c80 D l.length tests.length,←e3r D tests.length]at sA;refine b8g (Two.headN sA (x:=0) (y:=0) rfl mq rfl mq [0,1] (by simp+decide only[go_sem]<;>rfl) (by simp) (by simp) (by simp) (by simp) (by simp) (by rw[a4a];omega) (λcb _ b=>[(2,sl rt (tests.map Pat.enc)),(3,.ptr cb 0 0),(9,.slice b 0 l.length (some l.length)),(26,sl rl (l.map Flt.enc)),(27,.int .i64 l.length),(28,.int .i64 0)]) (λπ x' y' b' h1 h2 h3=>by simp+decide only[go_sem,h1,h3]<;>rfl)) ?_
  rintro F H ⟨cb,fb,b,al,rfl,e1,e2,e3⟩
  exact⟨0,cb,b,al,rfl,f0h _,rfl,e1,e3⟩
 ·rintro N F H ⟨i,cb,b,al,rfl,hi,rfl,bV,hT⟩
  by_cases ag:i<l.length
  ·obtain⟨f,dp⟩:∃f,l[i]?=some f:=⟨_,z9e ag⟩
   have dO:=hf f (c10 dp);have ei:Flt.enc f=[.int .u8 f.model,.int .i64 f.node,.int .i64 f.pin,.int .u8 f.value,.int .i64 f.other]:=rfl;have c1:(i:Int)<l.length:=by omega
   have hw:=wI1 (n:=i) (by omega);have bL:=a0t bV;have bE:=a0t hT.top
   (repeat first|simp only[ww]|(apply xa;simp+decide only[go_sem,c1,ag,dp,ei,a28,a37,a1m,a57,a6e,a7u,a4f,a4e,c11];rfl;kernel_rfl))
   have tq:=c4t (D i);refine a1x kp10_2 (λN F H=>∃(t cb fb b:Nat) (al:Nat→Nat),N=tests.length-t∧t≤tests.length∧F=[(2,sl rt (tests.map Pat.enc)),(3,.ptr cb 0 0),(9,.slice b 0 l.length (some l.length)),(10,.int .i64 i),(11,.ptr fb 0 0),(26,sl rl (l.map Flt.enc)),(27,.int .i64 l.length),(28,.int .i64 i),(33,sl rt (tests.map Pat.enc)),(34,.int .i64 tests.length),(35,.int .i64 t)]∧a01 H cb=some (.row 4 [[sl c.nc (c.nodes.map Nd.enc),sl c.mc (c.names.map a1s),.nilslice,sl c.oc (c.outs.map a0d)]])∧a01 H fb=some (.row 5 [[.int .u8 f.model,.int .i64 f.node,.int .i64 f.pin,.int .u8 f.value,.int .i64 f.other]])∧Two H b 1 al (b21 D tests.length i) (a9h D l.length tests.length i t)) tests.length ?_ ?_
   ·refine b8g (Two.headN hT.more (x:=cb) (y:=H.length) (by rw[a1m (f7k bL)];exact bV) mq (a28 (L:=[some (.row 5 [[.int .u8 f.model,.int .i64 f.node,.int .i64 f.pin,.int .u8 f.value,.int .i64 f.other]])])) (FlatR.cons rfl FlatR.nil) [cb,b,H.length] (by simp+decide only[go_sem]<;>rfl) (by simp) (by simp) (by simp) (by simp) (by simp) (by rw[a4a];omega) (λcb fb b=>[(2,sl rt (tests.map Pat.enc)),(3,.ptr cb 0 0),(9,.slice b 0 l.length (some l.length)),(10,.int .i64 i),(11,.ptr fb 0 0),(26,sl rl (l.map Flt.enc)),(27,.int .i64 l.length),(28,.int .i64 i),(33,sl rt (tests.map Pat.enc)),(34,.int .i64 tests.length),(35,.int .i64 0)]) (λπ x' y' b' h1 h2 h3=>by simp+decide only[go_sem,h1,h2,h3]<;>rfl)) ?_
    rintro F H ⟨cb,fb,b,al,rfl,e1,e2,e3⟩
    exact⟨0,cb,fb,b,al,rfl,f0h _,rfl,e1,e2,e3⟩
   ·rintro N F H ⟨t,cb,fb,b,al,rfl,rv,rfl,bV,ke,hT⟩
    have bL:=a0t bV;have bF:=a0t ke;have ec:=hT.top;have bE:=a0t ec;obtain⟨jH,qA⟩:=hT.apart bV (by omega) (by omega);obtain⟨nE,qp⟩:=hT.apart ke (by omega) (by omega);have aW:=c81 D l.length tests.length i t ag;have aG:=a6f (al:=al) (cp:=b21 D tests.length i) aW;have gB:b21 D tests.length i i=none:=by simp[b21]
    rw[gB]at aG;have dD:(a24 al (b21 D tests.length i) (a9h D l.length tests.length i t)).length=l.length:=by rw[a3o,a4a]
    have m7:=tq t;by_cases cU:t<tests.length
    ·obtain⟨p,kV⟩:∃p,tests[t]?=some p:=⟨_,z9e cU⟩
     have lZ:=hp p (c10 kV);have dK:Pat.enc p=[sl p.ic (p.ins.map u8R),sl p.sc (p.sts.map u8R)]:=rfl;have eu:=λ(d:Bool) (H:a02)=>bp d H f dO p lZ;rw[←hD i t f p dp kV,ei,dK]at eu;have d1:(t:Int)<tests.length:=by omega
     have jQ:=wI1 (n:=t) (by omega);have cZ:=e5w (D i) t;have fE:∀(pc o9 b1:Nat) (mH:Nat→Nat) (H2:a02) (F1:Frm),a01 H2 pc=some (.row 4 [[sl c.nc (c.nodes.map Nd.enc),sl c.mc (c.names.map a1s),.nilslice,sl c.oc (c.outs.map a0d)]])→a01 H2 o9=some (.row 5 [[.int .u8 f.model,.int .i64 f.node,.int .i64 f.pin,.int .u8 f.value,.int .i64 f.other]])→Two H2 b1 1 mH (b21 D tests.length i) (a9h D l.length tests.length i (t+1))→a08 ((a1i [2,3,9,10,11,26,27,28,33,34,35] F1).map (·.2))=[pc,b1,o9]→
      (∀π,b50 π (a1i [2,3,9,10,11,26,27,28,33,34,35] F1)=[(2,sl rt (tests.map Pat.enc)),(3,ren π (.ptr pc 0 0)),(9,ren π (.slice b1 0 l.length (some l.length))),(10,.int .i64 i),(11,ren π (.ptr o9 0 0)),(26,sl rl (l.map Flt.enc)),(27,.int .i64 l.length),(28,.int .i64 i),(33,sl rt (tests.map Pat.enc)),(34,.int .i64 tests.length),(35,.int .i64 (t+1:Nat))])→
      ∃F H,gcD 0 [2,3,9,10,11,26,27,28,33,34,35] F1 H2=some (F,H)∧∃(t' cb fb b:Nat) (al:Nat→Nat),tests.length-(t+1)=tests.length-t'∧t'≤tests.length∧F=[(2,sl rt (tests.map Pat.enc)),(3,.ptr cb 0 0),(9,.slice b 0 l.length (some l.length)),(10,.int .i64 i),(11,.ptr fb 0 0),(26,sl rl (l.map Flt.enc)),(27,.int .i64 l.length),(28,.int .i64 i),(33,sl rt (tests.map Pat.enc)),(34,.int .i64 tests.length),(35,.int .i64 t')]∧a01 H cb=some (.row 4 [[sl c.nc (c.nodes.map Nd.enc),sl c.mc (c.names.map a1s),.nilslice,sl c.oc (c.outs.map a0d)]])∧a01 H fb=some (.row 5 [[.int .u8 f.model,.int .i64 f.node,.int .i64 f.pin,.int .u8 f.value,.int .i64 f.other]])∧Two H b 1 al (b21 D tests.length i) (a9h D l.length tests.length i t'):=by
      intro pc o9 b1 mH H2 F1 h1 h2 ko ku oo;refine b8g (Two.headN ko h1 mq h2 (FlatR.cons rfl FlatR.nil) _ ku (by simp) (by simp) (by simp) (by simp) (by simp) (by rw[a4a];omega) (λcb fb b=>[(2,sl rt (tests.map Pat.enc)),(3,.ptr cb 0 0),(9,.slice b 0 l.length (some l.length)),(10,.int .i64 i),(11,.ptr fb 0 0),(26,sl rl (l.map Flt.enc)),(27,.int .i64 l.length),(28,.int .i64 i),(33,sl rt (tests.map Pat.enc)),(34,.int .i64 tests.length),(35,.int .i64 (t+1:Nat))]) (λπ x' y' b' g1 g2 g3=>by rw[oo];simp+decide only[go_sem,g1,g2,g3]<;>rfl)) ?_
      rintro F H ⟨cb,fb,b,al,rfl,e1,e2,e3⟩
      exact⟨t+1,cb,fb,b,al,rfl,cU,rfl,e1,e2,e3⟩
     cases hDt:D i t with
     |false=>
      rw[hDt]at eu cZ;simp only[f0j (show ¬false=true by decide),e9n]at cZ;have iR:a9h D l.length tests.length i t=a9h D l.length tests.length i (t+1):=by unfold a9h;rw[cZ]
      rw[iR]at hT
      (repeat first|simp only[ww]|(apply xa;simp+decide only[go_sem,d1,cU,kV,dK,bV,ke,eu,jQ,bL,bF,a28,a37,a1m,a57,a6e,a7u,a4f,a4e,c11,e9o,f0k,e9q];rfl;kernel_rfl))
      exact a0p (tests.length-(t+1)) (by omega) (fE cb fb b al _ _ (by rw[a1m (f7k bL)];exact bV) (by rw[a1m (f7k bF)];exact ke) hT.more (by simp+decide only[go_sem]<;>rfl) (λπ=>by simp+decide only[go_sem]<;>rfl))
     |true=>
      rw[hDt]at eu cZ;simp only[f1r rfl]at cZ;cases hL:dts (D i) t with
      |nil=>
       rw[hL]at aG aW cZ;simp only[e9p,slV,e9q]at aG aW cZ
       (repeat first|simp only[ww]|(apply xa;simp+decide only[go_sem,d1,cU,kV,dK,bV,ke,eu,jQ,bL,bF,ag,bE,ec,aG,dD,a2x,a28,a37,a1m,a57,a6e,a7u,a4f,a4e,c11,e9o,f0k,e9q];rfl;kernel_rfl))
       have cB:∀X:Option AObj,Two (H.set b (some (.row 1 ((a24 al (b21 D tests.length i) (a9h D l.length tests.length i t)).set i [.slice (H.length+2) 0 1 none])))++[X,some (.row 1 [[.int .i64 t]]),some (.row 1 [[.int .i64 t]])]) b 1 (λj=>if j=i then H.length+2 else al j) (b21 D tests.length i) (a9h D l.length tests.length i (t+1)):=λX=>by rw[←c3n D l.length tests.length i t ag ([]++[[.int .i64 t]]) (by rw[cZ];rfl)];refine hT.app aW gB rfl (by omega) (by rw[a2w bE,f1r rfl];rfl) (by rw[a2x];rfl) ?_;intro j g bB hg au;obtain⟨g1,g2⟩:=hT.sub j g hg au;rw[a2w (a0t g1),f0j (f4j g2)]
       exact a0p (tests.length-(t+1)) (by omega) (fE cb fb b _ _ _ (by rw[a2w bL,f0j (f4j jH)];exact bV) (by rw[a2w bF,f0j (f4j nE)];exact ke) (cB _) (by simp+decide only[go_sem]<;>rfl) (λπ=>by simp+decide only[go_sem]<;>rfl))
      |cons a r=>
       rw[hL]at aG aW cZ m7;simp only[e12,slV,e9m]at aG aW m7;obtain⟨s1,s2⟩:=hT.sub i _ aW (by simp);have s3:=a0t s1;have s4:¬al i=b:=s2;have oe:r.length+1+1≤1000000000:=by omega
       have ep:(H.set (al i) none).length=H.length:=f2r;have tT:cb≠al i:=qA i _ aW (by simp);have qn:fb≠al i:=qp i _ aW (by simp);rw[c11]at aG
       (repeat first|simp only[ww]|(apply xa;simp+decide only[go_sem,d1,cU,kV,dK,bV,ke,eu,jQ,bL,bF,ag,bE,ec,aG,dD,s1,s2,s3,s4,oe,a6p,a2x,a28,a37,a1m,a57,a6e,a7u,a4f,a4e,f2r,c11,e9o,f0k,e9q];rfl;kernel_rfl))
       have cB:∀(X Y:Option AObj),Two (((H.set (al i) none).set b (some (.row 1 ((a24 al (b21 D tests.length i) (a9h D l.length tests.length i t)).set i [.slice (H.length+2) 0 (r.length+1+1) none]))))++[X,Y,some (.row 1 (a0d a::(r.map a0d++[[.int .i64 t]])))]) b 1 (λj=>if j=i then H.length+2 else al j) (b21 D tests.length i) (a9h D l.length tests.length i (t+1)):=λX Y=>by
        rw[←c3n D l.length tests.length i t ag ((a0d a::r.map a0d)++[[.int .i64 t]]) (by rw[cZ];simp;rfl)];refine hT.app aW gB rfl (by omega) (by rw[a2w (by rw[ep];exact bE),f1r rfl,e9m,c11]) ?_ ?_
        ·have:=a2x (H:=H.set (al i) none) (L:=[X,Y,some (.row 1 (a0d a::(r.map a0d++[[.int .i64 t]])))]) (a:=b) (o:=some (.row 1 ((a24 al (b21 D tests.length i) (a9h D l.length tests.length i t)).set i [.slice (H.length+2) 0 (r.length+1+1) none]))) 2;rw[ep]at this;rw[this];rfl
        ·intro j g bB hg au;obtain⟨g1,g2⟩:=hT.sub j g hg au;rw[a2w (by rw[ep];exact a0t g1),f0j (f4j g2),a0z];intro e;exact bB (hT.inj j i g _ hg aW au (by simp) e.symm)
       exact a0p (tests.length-(t+1)) (by omega) (fE cb fb b _ _ _ (by rw[a2w (by rw[ep];exact bL),f0j (f4j jH),a0z (f4j tT)];exact bV) (by rw[a2w (by rw[ep];exact bF),f0j (f4j nE),a0z (f4j qn)];exact ke) (cB _ _) (by simp+decide only[go_sem]<;>rfl) (λπ=>by simp+decide only[go_sem]<;>rfl))
    ·obtain rfl:t=tests.length:=by omega
     have d1:¬(tests.length:Int)<tests.length:=by omega
     have bD:∀H1,H1=H.set b (some (.row 1 ((a24 al (b21 D tests.length i) (a9h D l.length tests.length i tests.length)).set i [slV (al i) (some (dts (D i) tests.length).length) ((dts (D i) tests.length).map a0d)])))→Two H1 b 1 al (b21 D tests.length (i+1)) (a9h D l.length tests.length (i+1) 0):=by intro H1 lM;have:=hT.clip (H1:=H1) aW (by rw[lM,a3c bE]) (λc hc=>by rw[lM,a0z (f4j hc)]);rw[e3q,c7z]at this;exact this
     have kf:∀(H2:a02) (F1:Frm),a01 H2 cb=some (.row 4 [[sl c.nc (c.nodes.map Nd.enc),sl c.mc (c.names.map a1s),.nilslice,sl c.oc (c.outs.map a0d)]])→Two H2 b 1 al (b21 D tests.length (i+1)) (a9h D l.length tests.length (i+1) 0)→a08 ((a1i [2,3,9,26,27,28] F1).map (·.2))=[cb,b]→
      (∀π,b50 π (a1i [2,3,9,26,27,28] F1)=[(2,sl rt (tests.map Pat.enc)),(3,ren π (.ptr cb 0 0)),(9,ren π (.slice b 0 l.length (some l.length))),(26,sl rl (l.map Flt.enc)),(27,.int .i64 l.length),(28,.int .i64 (i+1:Nat))])→
      ∃F H,gcD 0 [2,3,9,26,27,28] F1 H2=some (F,H)∧∃(i' cb b:Nat) (al:Nat→Nat),l.length-(i+1)=l.length-i'∧i'≤l.length∧F=[(2,sl rt (tests.map Pat.enc)),(3,.ptr cb 0 0),(9,.slice b 0 l.length (some l.length)),(26,sl rl (l.map Flt.enc)),(27,.int .i64 l.length),(28,.int .i64 i')]∧a01 H cb=some (.row 4 [[sl c.nc (c.nodes.map Nd.enc),sl c.mc (c.names.map a1s),.nilslice,sl c.oc (c.outs.map a0d)]])∧Two H b 1 al (b21 D tests.length i') (a9h D l.length tests.length i' 0):=by
      intro H2 F1 h1 ko ku oo;refine b8g (Two.headN ko h1 mq h1 mq _ ku (by simp) (by simp) (by simp) (by simp) (by simp) (by rw[a4a];omega) (λcb _ b=>[(2,sl rt (tests.map Pat.enc)),(3,.ptr cb 0 0),(9,.slice b 0 l.length (some l.length)),(26,sl rl (l.map Flt.enc)),(27,.int .i64 l.length),(28,.int .i64 (i+1:Nat))]) (λπ x' y' b' g1 g2 g3=>by rw[oo];simp+decide only[go_sem,g1,g3]<;>rfl)) ?_
      rintro F H ⟨cb,fb,b,al,rfl,e1,e2,e3⟩
      exact⟨i+1,cb,b,al,rfl,ag,rfl,e1,e3⟩
     cases hL:dts (D i) tests.length with
     |nil=>
      rw[hL]at aG aW bD;simp only[e9p,slV]at aG aW bD;have gB:=λ(d:Bool) (H:a02)=>a04 (E:=L.env) (ah:=d) (call:=sem L.env Mf) (H:=H) (g:=35) (fs:=[]) (cs:=[]) (ar:=[.nilslice]) (by kernel_rfl) (by kernel_rfl) rfl rfl d0a rfl
      (repeat first|simp only[ww]|(apply xa;simp+decide only[go_sem,d1,ag,hw,bE,ec,aG,gB,dD,f2r];rfl;kernel_rfl))
      exact a0p (l.length-(i+1)) (by omega) (kf _ _ (by rw[a0z (f4j jH)];exact bV) (bD _ rfl) (by simp+decide only[go_sem]<;>rfl) (λπ=>by simp+decide only[go_sem]<;>rfl))
     |cons a r=>
      rw[hL]at aG aW bD;simp only[e12,slV,e9m,c11]at aG aW bD;obtain⟨s1,s2⟩:=hT.sub i _ aW (by simp);have qw:=λ(d:Bool)=>b6g (d:=d) (H:=H) (b:=al i) (n:=r.length+1) (hT.flat _ (c10 aW)) s1
      (repeat first|simp only[ww]|(apply xa;simp+decide only[go_sem,d1,ag,hw,bE,ec,aG,qw,dD,f2r];rfl;kernel_rfl))
      exact a0p (l.length-(i+1)) (by omega) (kf _ _ (by rw[a0z (f4j jH)];exact bV) (bD _ rfl) (by simp+decide only[go_sem]<;>rfl) (λπ=>by simp+decide only[go_sem]<;>rfl))
  ·obtain rfl:i=l.length:=by omega
   have c1:¬(l.length:Int)<l.length:=by omega
   have hz:=hT.frz (some l.length);rw[a4a,d3e]at hz
   (repeat first|simp only[ww]|(apply xa;simp+decide only[go_sem,c1,c11];rfl;kernel_rfl))
   refine a1v (vs:=[.slice b 0 l.length (some l.length),.int .i64 0]) (r:=(_,[])) (by simp+decide only[go_sem]<;>rfl) ?_ rfl;show a10 false 0 _ H=_;simp+decide only[go_sem,b44,hz]
theorem c26{d:Bool}(H:a02)(c:Cir)(hc:c.wf)(hO:c.outs≠[])(ord:List Nat)(aP:OrdOf c ord)(rl rt:Rep)(l:List Flt)(tests:List Pat)(hl:l.length≤1000)(ht:tests.length≤1000)(hf:∀f∈l,FltOk c.nodes f)(hp:∀p∈tests,PatOk c.nodes p)
 (D:Nat→Nat→Bool)(hD:∀(i t:Nat) (f:Flt) (p:Pat),l[i]?=some f→tests[t]?=some p→D i t=(b4z c ord).det f p) :
 a09 L.env d (sem L.env Mf) (.func (.func 10) [] []) [.agg c.enc,sl rl (l.map Flt.enc),sl rt (tests.map Pat.enc)] H=some (.tuple [.islice ((List.range l.length).map λj=>[lsV (dts (D j) tests.length)]) (some l.length),.int .i64 0],H,[]):=by
 obtain⟨r,rfl,h⟩:=c95 c hc hO ord aP rl rt l tests hl ht hf hp D hD;exact a04 (by kernel_rfl) (by kernel_rfl) rfl (by simp only[e9q,e9n,a0c,a33,a3r];exact a9i c) h rfl
def Cb.pat(p:Cb):Pat:=⟨p.ci,p.ins,p.cs,p.sts⟩
theorem d9u(ts:List Cb):(ts.map Cb.pat).map Pat.enc=ts.map Cb.cells:=by rw[List.map_map];rfl
theorem c2j:∀{a b:List Nat},a.length=b.length→(∀z∈a.zip b,le2 z.1 z.2)→lel a b
 | [],[],_,_=>trivial
 | [],_::_,h,_=>by simp at h
 |_::_,[],h,_=>by simp at h
 |x::a,y::b,h,hz=>⟨hz (x,y) (by simp),c2j (by simpa using h) λz h'=>hz z (by simp[h'])⟩
theorem e1a{n m:Nat}{p q:Cb}(hp:p.sh n m)(hq:q.sh n m)(h:d5w p q=true):lel p.ins q.ins∧lel p.sts q.sts:=by
 have hi:p.ins.length=q.ins.length:=by rw[hp.ins,hq.ins]
 have hs:p.sts.length=q.sts.length:=by rw[hp.sts,hq.sts]
 have hz:∀z∈p.all.zip q.all,e39 z.1 z.2=false:=by
  intro z hz;have h0:b4h e39 p.all q.all p.n=0:=by unfold d5w at h;simpa using h
  unfold b4h at h0;rw[List.countP_eq_zero]at h0;have ht:(p.all.zip q.all).take p.n=p.all.zip q.all:=f0f (by rw[List.length_zip];simp only[Cb.all,f1o,Cb.n];omega);rw[ht]at h0;have:=h0 z hz;simpa using this
 have bd:∀z∈p.all.zip q.all,le2 z.1 z.2:=by
  intro z h';have:=hz z h';unfold e39 at this;unfold le2;by_cases h1:z.1=z.2
  ·exact .inl h1
  ·by_cases h2:z.1=2
   ·exact .inr h2
   ·simp[h1,h2]at this
 have he:p.all.zip q.all=p.ins.zip q.ins++p.sts.zip q.sts:=by unfold Cb.all;rw[List.zip_append hi]
 rw[he]at bd;exact⟨c2j hi λz h'=>bd z (List.mem_append_left _ h'),c2j hs λz h'=>bd z (List.mem_append_right _ h')⟩
def d1l(c:Cir)(ord:List Nat)(fs:List Flt)(ts:List Cb)(i t:Nat):Bool:=match fs[i]?,ts[t]? with
 |some f,some p=>(b4z c ord).det f p.pat
 |_,_=>false
theorem d1k(c:Cir)(ord:List Nat)(fs:List Flt)(ts:List Cb)(i t:Nat)(f:Flt)(p:Pat)(hf:fs[i]?=some f)(hp:(ts.map Cb.pat)[t]?=some p):d1l c ord fs ts i t=(b4z c ord).det f p:=by
 rw[f0d]at hp;cases h:ts[t]? with
 |none=>rw[h]at hp;cases hp
 |some q=>rw[h]at hp;cases hp;unfold d1l;rw[hf,h]
theorem b9z{nodes:List Nd}{p:Cb}(h:p.sh (kinds nodes 0).length (kinds nodes 14).length):PatOk nodes p.pat:=⟨h.ins,h.sts,λv hv=>by have:=h.ok.2 v (List.mem_append_left _ hv);omega,λv hv=>by have:=h.ok.2 v (List.mem_append_right _ hv);omega⟩
theorem c67(c:Cir)(hc:c.wf)(ord:List Nat)(aP:OrdOf c ord)(fs:List Flt)(hf:∀f∈fs,FltOk c.nodes f)(ts:List Cb)(gr:∀p∈ts,p.sh (kinds c.nodes 0).length (kinds c.nodes 14).length)(i k:Nat)(g:List Nat)(hg:(a7p ts ts.length).2[k]?=some g)(hi:i<fs.length)
 (h:a6l (dts (d1l c ord fs ts i) ts.length) g=true):(dts (d1l c ord fs (a7p ts ts.length).1 i) (a7p ts ts.length).1.length).contains k=true:=by
 have hM:=a9o gr ts.length;have hP:=c05 gr ts.length;unfold a6l at h;rw[List.any_eq_true]at h;obtain⟨t,py,kI⟩:=h;have kI:t∈g:=by simpa using kI
 unfold dts at py;rw[f4p]at py;obtain⟨uB,px⟩:=py;have bw:k<(a7p ts ts.length).1.length:=by rw[hM.len];exact(e9k.1 hg).1
 obtain⟨o,ho⟩:∃o,(a7p ts ts.length).1[k]?=some o:=⟨_,z9e bw⟩
 obtain⟨p,hp,oM⟩:=hP.cov k g o t hg ho kI;obtain⟨f,dp⟩:∃f,fs[i]?=some f:=⟨_,z9e hi⟩
 have jY:=gr p (c10 hp);have rG:=hM.sh o (c10 ho);obtain⟨l1,l2⟩:=e1a jY rG oM;have lZ:=b9z jY;have kY:=b9z rG;have dO:=hf f (c10 dp);rw[List.contains_iff_mem];unfold dts;rw[f4p];refine⟨f6z.2 bw,?_⟩;have hd:(b4z c ord).det f p.pat=true:=by unfold d1l at px;rw[dp,hp]at px;exact px
 unfold d1l;rw[dp,ho];exact(d0u c hc ord aP).det_mono (p:=p.pat) (q:=o.pat) lZ.ins.symm lZ.sts.symm l1 l2 f (λ_=>by have:=dO.value;omega) dO.node dO.other lZ.inv lZ.stv kY.inv kY.stv hd
theorem e3s(x:CX):x.cir.outs≠[]:=by show CX.outN _≠[];unfold CX.outN;simp
theorem e96(x:CX):kinds x.cir.nodes 0≠[]:=by
 have hk:0<x.k:=by unfold CX.k;omega
 have h0:a0l x.nodes 0=0:=by unfold a0l CX.nodes;rw[e9o,f0i (by simpa using hk),f3m,f1r hk];rfl
 have hl:0<x.nodes.length:=by have:=CX.nodes_len x;unfold CX.n at this;omega
 have:0∈kinds x.nodes 0:=by unfold kinds a3b;rw[f4p];exact⟨f6z.2 hl,by simpa using h0⟩
 intro e;have e:kinds x.nodes 0=[]:=e;rw[e]at this;cases this
theorem f4e(c:Cir)(hc:c.wf)(f:FX)(hf:f.ok):(∃g,FltOk c.nodes g∧g.model≠1∧∀(d:Bool) (H:a02),a09 L.env d (sem L.env Mf) (.func (.func 8) [] []) [.agg f.enc,.agg c.enc] H=some (.agg g.enc,H,[]))∨
 ∃nd pin val,FltOk c.nodes ⟨0,nd,pin,val,0⟩∧∀(d:Bool) (H:a02),a09 L.env d (sem L.env Mf) (.func (.func 8) [] []) [.agg f.enc,.agg c.enc] H=some (.agg (Flt.enc ⟨1,nd,pin,val,0⟩),H,[]):=by
 by_cases hm:f.model%4=1
 ·exact .inr (d15 c hc f hf hm)
 ·obtain⟨g,h1,h2⟩:=d5i c hc f hf hm;exact .inl ⟨g,h1,by rcases h1.model with e|e|e<;>omega,h2⟩
theorem e0t(k:Nat)(X:Option AObj){rows:List (List AV)}(hf:FlatR rows):a3i 0 true (a58 (a01 (X::grH k rows)) 0 12) (grV 1 rows)=some (sl none rows):=by
 cases rows with
 |nil=>rfl
 |cons a r=>
  have h2:=λm d=>a1g (m:=m) (d:=d) hf;have h4:((a::r).drop 0).take (r.length+1)=a::r:=by rw[f4g];exact f0f (by simp)
  rw[a06,a07,a7t];simp+decide only[go_sem,h2,h4,e9m]
theorem e0u(k:Nat){rows:List (List AV)}(hf:FlatR rows):a3i 0 true (a58 (a01 (grH k rows)) 0 12) (grV 0 rows)=some (sl none rows):=by
 cases rows with
 |nil=>rfl
 |cons a r=>
  have h2:=λm d=>a1g (m:=m) (d:=d) hf;have h4:((a::r).drop 0).take (r.length+1)=a::r:=by rw[f4g];exact f0f (by simp)
  rw[a06,a07,a7t];simp+decide only[go_sem,h2,h4,e9m]
theorem c8n(l:List Nat):RV l (sl (cL l) (l.map a0d)):=by
 cases l with
 |nil=>exact .nil rfl
 |cons a r=>exact .imm _
theorem lawTab_ok(x:CX)(hx:x.ok)(lr pr:Rep)(l:List FX)(hl:∀f∈l,f.ok)(ps:List Pat)(fl:∀p∈ps,PxOk p) :
 sem L.env Mf 3 [.agg x.enc,sl lr (l.map FX.enc),sl pr (ps.map Pat.enc)] []=some (.bool true,[]):=by
 have l9:=λ(H:a02)=>c69 (d:=false) H;have bH:=λ(d:Bool) (H:a02)=>c18 (d:=d) H x hx;have hc:(b51 x).cir.wf:=CX.wf _;obtain⟨ord,aP⟩:=e4n _ hc;have hO:=e3s (b51 x);have hk:=e96 (b51 x);generalize(b51 x).cir=c at bH hc aP hO hk
 suffices lU:∃r:AV×a02,(r=(.bool true,[]))∧sem L.env Mf 3 [.agg x.enc,sl lr (l.map FX.enc),sl pr (ps.map Pat.enc)] []=some r by obtain⟨r,rfl,h3⟩:=lU;exact h3
 by_cases tE:10<l.length
 ·have d0:(10:Int)<l.length:=by omega
  simp only[CX.enc]
  (refine svE Tryz.f3 ?_;simp only[Tryz.f3,gS])
  (repeat first|simp only[ww]|(apply xa;simp+decide only[go_sem,d0,l9,c11];rfl;kernel_rfl))
  refine a1v (vs:=[.bool true]) (r:=(_,_)) (by simp+decide only[go_sem]) ?_ rfl;simp+decide only[go_sem,a10]<;>rfl
 have d0:¬(10:Int)<l.length:=by omega
 by_cases gb:6<ps.length
 ·have d1:(6:Int)<ps.length:=by omega
  simp only[CX.enc]
  (refine svE Tryz.f3 ?_;simp only[Tryz.f3,gS])
  (repeat first|simp only[ww]|(apply xa;simp+decide only[go_sem,d0,d1,l9,c11];rfl;kernel_rfl))
  refine a1v (vs:=[.bool true]) (r:=(_,_)) (by simp+decide only[go_sem]) ?_ rfl;simp+decide only[go_sem,a10]<;>rfl
 have d1:¬(6:Int)<ps.length:=by omega
 have dO:=λf hf=>f4e c hc f (hl f hf);have se:=λp hp=>d1n c hc hk p (fl p hp);have ou:∀π:Nat→Option Nat,a0g π (.row 4 [[sl c.nc (c.nodes.map Nd.enc),sl c.mc (c.names.map a1s),.nilslice,sl c.oc (c.outs.map a0d)]]) = .row 4 [[sl c.nc (c.nodes.map Nd.enc),sl c.mc (c.names.map a1s),.nilslice,sl c.oc (c.outs.map a0d)]]:=λπ=>by simp+decide only[go_sem]
 have oq:a0o (some (.row 4 [[sl c.nc (c.nodes.map Nd.enc),sl c.mc (c.names.map a1s),.nilslice,sl c.oc (c.outs.map a0d)]]))=[]:=by simp+decide only[go_sem]
 have sy:=λ(d:Bool) (H:a02)=>c26 (d:=d) H c hc hO ord aP;simp only[Cir.enc,CX.enc,FX.enc,Flt.enc,Pat.enc]at bH dO se⊢
 (refine svE Tryz.f3 ?_;simp only[Tryz.f3,gS])
 (repeat first|simp only[ww]|(apply xa;simp+decide only[go_sem,bH,d0,d1,c11];rfl;kernel_rfl))
 refine d75 kp3_0 rfl (λN F H=>∃fs:List Flt,N=l.length-fs.length∧fs.length≤l.length∧(∀f∈fs,FltOk c.nodes f)∧F=[(1,sl lr (l.map FX.enc)),(2,sl pr (ps.map Pat.enc)),(7,.ptr 0 0 0),(8,grV 1 (fs.map Flt.enc)),(9,.int .i64 fs.length),(1000000,.junk)]∧H=some (.row 4 [[sl c.nc (c.nodes.map Nd.enc),sl c.mc (c.names.map a1s),.nilslice,sl c.oc (c.outs.map a0d)]])::grH 5 (fs.map Flt.enc)) l.length ?_ ?_
 ·refine⟨_,[some (.row 4 [[sl c.nc (c.nodes.map Nd.enc),sl c.mc (c.names.map a1s),.nilslice,sl c.oc (c.outs.map a0d)]])],?_,[],rfl,f0h _,by simp,rfl,rfl⟩
  (simp+decide only[go_sem,a03,a00,ou,oq,FX.enc,Pat.enc]<;>rfl)<;>rfl
 ·rintro N F H ⟨fs,rfl,bF,er,rfl,rfl⟩
  have nC:FlatR (fs.map Flt.enc):=FlatR.map λ_=>rfl;by_cases ag:fs.length<l.length
  ·obtain⟨f,dp⟩:∃f,l[fs.length]?=some f:=⟨_,z9e ag⟩
   have ei:FX.enc f=[.int .u8 f.model,.int .u8 f.node,.int .u8 f.pin,.int .u8 f.other,.bool f.one]:=rfl;have c1:(fs.length:Int)<l.length:=by omega
   have hw:=wI1 (n:=fs.length) (by omega);have gR:fs.length+1≤1000000000:=by omega
   have dF:=a0e nC;have dL:=λπ=>a0b π nC;rcases dO f (c10 dp)with ⟨g,hg,lm,ae⟩|⟨nd,pin,val,hg,ae⟩
   ·have m1:¬(g.model:Int)=1:=by omega
    have gX:Flt.enc g=[.int .u8 g.model,.int .i64 g.node,.int .i64 g.pin,.int .u8 g.value,.int .i64 g.other]:=rfl;have dB:∀z∈fs++[g],FltOk c.nodes z:=λz hz=>by
     rcases f2w.1 hz with h|h
     ·exact er z h
     ·rw[f1s.1 h];exact hg
    cases fs with
    |nil=>
     simp only[f0g]at c1 hw ag dp
     (repeat first|simp only[ww]|(apply xa;simp+decide only[go_sem,c1,ag,dp,ei,ae,hw,m1,e9p,a0q,a0r,f0g,c11];rfl;kernel_rfl))
     refine a0p (l.length-1) (by simp;omega) ⟨_,_,?_,[g],rfl,by simp;omega,dB,rfl,rfl⟩
     (simp+decide only[go_sem,a03,a00,ou,oq,e12,e9p,a06,a07,f0g,e9m,gX]<;>rfl)<;>rfl
    |cons a r=>
     simp only[e9m]at c1 hw ag dp gR;have qG:Flt.enc a=[.int .u8 a.model,.int .i64 a.node,.int .i64 a.pin,.int .u8 a.value,.int .i64 a.other]:=rfl;have jo:=b0y r;have eU:=λπ=>b2x π r
     (repeat first|simp only[ww]|(apply xa;simp+decide only[go_sem,c1,ag,dp,ei,ae,hw,m1,e12,a06,a07,gR,e9m,c11];rfl;kernel_rfl))
     refine a0p (l.length-(r.length+1+1)) (by simp;omega) ⟨_,_,?_,(a::r)++[g],by simp,by simp;omega,dB,rfl,rfl⟩
     (simp+decide only[go_sem,a03,a00,ou,oq,jo,eU,f0k,f2o,e12,e9p,a06,a07,e9m,f1o,f0g,c11,gX,qG]<;>rfl)<;>rfl
   ·have gX:Flt.enc ⟨0,nd,pin,val,0⟩=[.int .u8 0,.int .i64 nd,.int .i64 pin,.int .u8 val,.int .i64 0]:=rfl;have dB:∀z∈fs++[(⟨0,nd,pin,val,0⟩:Flt)],FltOk c.nodes z:=λz hz=>by
     rcases f2w.1 hz with h|h
     ·exact er z h
     ·rw[f1s.1 h];exact hg
    cases fs with
    |nil=>
     simp only[f0g]at c1 hw ag dp
     (repeat first|simp only[ww]|(apply xa;simp+decide only[go_sem,c1,ag,dp,ei,ae,hw,e9p,a0q,a0r,f0g,c11];rfl;kernel_rfl))
     refine a0p (l.length-1) (by simp;omega) ⟨_,_,?_,[⟨0,nd,pin,val,0⟩],rfl,by simp;omega,dB,rfl,rfl⟩
     (simp+decide only[go_sem,a03,a00,ou,oq,e12,e9p,a06,a07,f0g,e9m,gX]<;>rfl)<;>rfl
    |cons a r=>
     simp only[e9m]at c1 hw ag dp gR;have qG:Flt.enc a=[.int .u8 a.model,.int .i64 a.node,.int .i64 a.pin,.int .u8 a.value,.int .i64 a.other]:=rfl;have jo:=b0y r;have eU:=λπ=>b2x π r
     (repeat first|simp only[ww]|(apply xa;simp+decide only[go_sem,c1,ag,dp,ei,ae,hw,e12,a06,a07,gR,e9m,c11];rfl;kernel_rfl))
     refine a0p (l.length-(r.length+1+1)) (by simp;omega) ⟨_,_,?_,(a::r)++[⟨0,nd,pin,val,0⟩],by simp,by simp;omega,dB,rfl,rfl⟩
     (simp+decide only[go_sem,a03,a00,ou,oq,jo,eU,f0k,f2o,e12,e9p,a06,a07,e9m,f1o,f0g,c11,gX,qG]<;>rfl)<;>rfl
  ·have e:fs.length=l.length:=by omega
   have c1:¬(fs.length:Int)<l.length:=by omega
   have hz:=e0t 5 (some (.row 4 [[sl c.nc (c.nodes.map Nd.enc),sl c.mc (c.names.map a1s),.nilslice,sl c.oc (c.outs.map a0d)]])) nC;have oE:a01 (some (.row 4 [[sl c.nc (c.nodes.map Nd.enc),sl c.mc (c.names.map a1s),.nilslice,sl c.oc (c.outs.map a0d)]])::grH 5 (fs.map Flt.enc)) 0=some (.row 4 [[sl c.nc (c.nodes.map Nd.enc),sl c.mc (c.names.map a1s),.nilslice,sl c.oc (c.outs.map a0d)]]):=rfl
   (repeat first|simp only[ww]|(apply xa;simp+decide only[go_sem,c1,c11];rfl;kernel_rfl))
   rw[e5g];simp+decide only[go_sem,hz,oE,Nat.not_lt_zero,f3i];clear hz oE
   (repeat first|simp only[ww]|(apply xa;simp+decide only[go_sem];rfl;kernel_rfl))
   refine d75 kp3_2 rfl (λN F H=>∃ts:List Cb,N=ps.length-ts.length∧ts.length≤ps.length∧(∀t∈ts,t.sh (kinds c.nodes 0).length (kinds c.nodes 14).length)∧F=[(2,sl pr (ps.map Pat.enc)),(7,.iptr [sl c.nc (c.nodes.map Nd.enc),sl c.mc (c.names.map a1s),.nilslice,sl c.oc (c.outs.map a0d)]),(8,sl none (fs.map Flt.enc)),(11,grV 0 (ts.map Cb.cells)),(12,.int .i64 ts.length),(1000000,.junk)]∧H=grH 2 (ts.map Cb.cells)) ps.length ?_ ?_
   ·refine⟨_,[],?_,[],rfl,f0h _,by simp,rfl,rfl⟩
    (simp+decide only[go_sem,a03,a00,Pat.enc]<;>rfl)<;>rfl
   ·rintro N F H ⟨ts,rfl,cU,gr,rfl,rfl⟩
    have th:=c0t ts;by_cases ip:ts.length<ps.length
    ·obtain⟨p,ft⟩:∃p,ps[ts.length]?=some p:=⟨_,z9e ip⟩
     have dK:Pat.enc p=[sl p.ic (p.ins.map u8R),sl p.sc (p.sts.map u8R)]:=rfl;obtain⟨a,b,a1,b1,a2,b2,ae⟩:=se p (c10 ft);have au:=hc.len;have hk0:=a3h c.nodes 0;have iJ:=a3h c.nodes 14;have kL:Cb.sh (kinds c.nodes 0).length (kinds c.nodes 14).length ⟨none,a,none,b⟩:=⟨⟨by show a.length+b.length≤16384;omega,λv hv=>by
      rcases f2w.1 hv with h|h
      ·exact a2 v h
      ·exact b2 v h⟩,a1,b1⟩
     have dB:∀t∈ts++[(⟨none,a,none,b⟩:Cb)],t.sh (kinds c.nodes 0).length (kinds c.nodes 14).length:=λz hz=>by
      rcases f2w.1 hz with h|h
      ·exact gr z h
      ·rw[f1s.1 h];exact kL
     have cw:Cb.cells ⟨none,a,none,b⟩=[sl none (a.map u8R),sl none (b.map u8R)]:=rfl;obtain⟨lR,jL⟩:∃A,sl none (a.map u8R)=A:=⟨_,rfl⟩
     obtain⟨lQ,ow⟩:∃B,sl none (b.map u8R)=B:=⟨_,rfl⟩
     have q1:refs lR=[]:=by rw[←jL];exact a33 _ _
     have q2:refs lQ=[]:=by rw[←ow];exact a33 _ _
     have q3:∀π,ren π lR=lR:=λπ=>a0x π _ q1;have q4:∀π,ren π lQ=lQ:=λπ=>a0x π _ q2;have q5:AV.storable lR=true:=by rw[←jL];simp only[go_sem]
     have q6:AV.storable lQ=true:=by rw[←ow];simp only[go_sem]
     have q7:AV.cells lR=[lR]:=by rw[←jL];simp only[go_sem]
     have q8:AV.cells lQ=[lQ]:=by rw[←ow];simp only[go_sem]
     have q9:AV.isJunk lR=false:=by rw[←jL];simp only[go_sem]
     have qY:AV.isJunk lQ=false:=by rw[←ow];simp only[go_sem]
     rw[jL,ow]at ae cw;have c2:(ts.length:Int)<ps.length:=by omega
     have hw:=wI1 (n:=ts.length) (by omega);have gR:ts.length+1≤1000000000:=by omega
     cases ts with
     |nil=>
      simp only[f0g]at c2 hw ip ft
      (repeat first|simp only[ww]|(apply xa;simp+decide only[go_sem,c2,ip,ft,dK,ae,hw,q5,q6,q7,q8,q9,qY,e9p,a0q,a0r,f0g,c11];rfl;kernel_rfl))
      refine a0p (ps.length-1) (by simp;omega) ⟨_,_,?_,[⟨none,a,none,b⟩],rfl,by simp;omega,dB,rfl,rfl⟩
      (simp+decide only[go_sem,a03,a00,e12,e9p,a06,a07,f0g,e9m,cw,q1,q2,q3,q4]<;>rfl)<;>rfl
     |cons z r=>
      simp only[e9m]at c2 hw ip ft gR;have uy:=d3w [z];have ux:=λπ=>e2p π [z];have jo:=d3w r;have eU:=λπ=>e2p π r;have sV:Cb.cells z=[sl z.ci (z.ins.map u8R),sl z.cs (z.sts.map u8R)]:=rfl
      (repeat first|simp only[ww]|(apply xa;simp+decide only[go_sem,c2,ip,ft,dK,ae,hw,q5,q6,q7,q8,q9,qY,e12,a06,a07,gR,e9m,c11];rfl;kernel_rfl))
      refine a0p (ps.length-(r.length+1+1)) (by simp;omega) ⟨_,_,?_,(z::r)++[⟨none,a,none,b⟩],by simp,by simp;omega,dB,rfl,rfl⟩
      (simp+decide only[go_sem,a03,a00,jo,eU,f0k,f2o,e12,e9p,a06,a07,e9m,f1o,f0g,c11,cw,sV,q1,q2,q3,q4,List.flatMap_append,f4c,List.flatMap_nil]<;>rfl)<;>rfl
    ·have e2:ts.length=ps.length:=by omega
     have c2:¬(ts.length:Int)<ps.length:=by omega
     have hz:=e0u 2 th
     (repeat first|simp only[ww]|(apply xa;simp+decide only[go_sem,c2,c11];rfl;kernel_rfl))
     rw[e5g];simp+decide only[go_sem,hz,Nat.not_lt_zero,f3i];clear hz;have kV:∀q∈ts.map Cb.pat,PatOk c.nodes q:=λq hq=>by obtain⟨t,ht,rfl⟩:=f4l.1 hq;exact b9z (gr t ht)
     have oa:=a9o gr ts.length;have od:=λi k g hg hi h=>c67 c hc ord aP fs er ts gr i k g hg hi h;have oL:=λ(H:a02)=>d9r H none ts _ _ gr (by omega);have ko:=λ(d:Bool) (H:a02)=>sy d H none none fs (ts.map Cb.pat) (by omega) (by simp;omega) er kV (d1l c ord fs ts) (d1k c ord fs ts);have sF:=λ(d:Bool) (H:a02) (f:Flt) (hf:FltOk c.nodes f) (p:Pat) (hp:PatOk c.nodes p)=>b1m (d:=d) H c hc hO p hp f hf ord aP;generalize dF:a7p ts ts.length=st at *;obtain⟨outs,gs⟩:=st;have ai:=oa.len;have pM:=oa.le;dsimp only at ai pM od oL;have rJ:∀q∈outs.map Cb.pat,PatOk c.nodes q:=λq hq=>by obtain⟨t,ht,rfl⟩:=f4l.1 hq;exact b9z (oa.sh t ht)
     have cB:=λ(d:Bool) (H:a02)=>sy d H none (cL outs) fs (outs.map Cb.pat) (by omega) (by simp;omega) er rJ (d1l c ord fs outs) (d1k c ord fs outs);rw[d9u,c11]at ko cB;simp only[Cir.enc]at ko cB sF;have e0:(outs.length:Int)=gs.length:=by omega
     obtain⟨D1,sG⟩:∃D,d1l c ord fs ts=D:=⟨_,rfl⟩
     obtain⟨D2,ul⟩:∃D,d1l c ord fs outs=D:=⟨_,rfl⟩
     have uk:∀(i t:Nat) (f:Flt) (p:Cb),fs[i]?=some f→ts[t]?=some p→D1 i t=(b4z c ord).det f p.pat:=λi t f p h1 h2=>by rw[←sG];unfold d1l;rw[h1,h2]
     rw[sG]at ko od;rw[ul]at cB od
     (repeat first|simp only[ww]|(apply xa;simp+decide only[go_sem,ko,oL,cB,ai,e0,c11,f3b,bne_self_eq_false];rfl;kernel_rfl))
     simp only[ai]at od;refine a1x kp3_4 (λN F H=>∃i:Nat,N=fs.length-i∧i≤fs.length∧F=[(7,.iptr [sl c.nc (c.nodes.map Nd.enc),sl c.mc (c.names.map a1s),.nilslice,sl c.oc (c.outs.map a0d)]),(8,sl none (fs.map Flt.enc)),(11,sl none (ts.map Cb.cells)),(13,.islice ((List.range fs.length).map λj=>[lsV (dts (D1 j) ts.length)]) (some fs.length)),(16,sl (cL gs) (gs.map λg=>[lsV g])),(18,.islice ((List.range fs.length).map λj=>[lsV (dts (D2 j) gs.length)]) (some fs.length)),(20,.int .i64 i)]∧H=[]) fs.length ?_ ?_
     ·refine⟨_,[],?_,0,rfl,f0h _,rfl,rfl⟩
      (simp+decide only[go_sem,a03,a00]<;>rfl)<;>rfl
     ·rintro N F H ⟨i,rfl,hi,rfl,rfl⟩
      by_cases fQ:i<fs.length
      ·obtain⟨f,dp⟩:∃f,fs[i]?=some f:=⟨_,z9e fQ⟩
       have qi:=er f (c10 dp);have qo:Flt.enc f=[.int .u8 f.model,.int .i64 f.node,.int .i64 f.pin,.int .u8 f.value,.int .i64 f.other]:=rfl;have c3:(i:Int)<fs.length:=by omega
       have bO:=wI1 (n:=i) (by omega);have ga:((List.range fs.length).map λj=>[lsV (dts (D1 j) ts.length)])[i]?=some [sl (cL (dts (D1 i) ts.length)) ((dts (D1 i) ts.length).map a0d)]:=by rw[f0d,List.getElem?_range fQ,f0e,c07]
       have jq:((List.range fs.length).map λj=>[lsV (dts (D2 j) gs.length)])[i]?=some [sl (cL (dts (D2 i) gs.length)) ((dts (D2 i) gs.length).map a0d)]:=by rw[f0d,List.getElem?_range fQ,f0e,c07]
       have uh:=c4t (D1 i) ts.length;have uL:=c4t (D2 i) gs.length
       (repeat first|simp only[ww]|(apply xa;simp+decide only[go_sem,c3,c11];rfl;kernel_rfl))
       refine a1x kp3_6 (λN F H=>∃t:Nat,N=ts.length-t∧t≤ts.length∧F=[(7,.iptr [sl c.nc (c.nodes.map Nd.enc),sl c.mc (c.names.map a1s),.nilslice,sl c.oc (c.outs.map a0d)]),(8,sl none (fs.map Flt.enc)),(11,sl none (ts.map Cb.cells)),(13,.islice ((List.range fs.length).map λj=>[lsV (dts (D1 j) ts.length)]) (some fs.length)),(16,sl (cL gs) (gs.map λg=>[lsV g])),(18,.islice ((List.range fs.length).map λj=>[lsV (dts (D2 j) gs.length)]) (some fs.length)),(20,.int .i64 i),(21,grV 0 ((dts (D1 i) t).map a0d)),(22,.int .i64 t)]∧H=grH 1 ((dts (D1 i) t).map a0d)) ts.length ?_ ?_
       ·refine⟨_,[],?_,0,rfl,f0h _,rfl,rfl⟩
        (simp+decide only[go_sem,a03,a00]<;>rfl)<;>rfl
       ·rintro N F H ⟨t,rfl,ht,rfl,rfl⟩
        by_cases jm:t<ts.length
        ·obtain⟨p,kU⟩:∃p,ts[t]?=some p:=⟨_,z9e jm⟩
         have tm:PatOk c.nodes p.pat:=b9z (gr p (c10 kU));have eu:=λ(d:Bool) (H:a02)=>sF d H f qi p.pat tm;rw[←uk i t f p dp kU,qo]at eu;have pL:Pat.enc p.pat=[sl p.ci (p.ins.map u8R),sl p.cs (p.sts.map u8R)]:=rfl;rw[pL]at eu;have oI:(ts.map Cb.cells)[t]?=some [sl p.ci (p.ins.map u8R),sl p.cs (p.sts.map u8R)]:=by rw[f0d,kU];rfl
         have oK:(fs.map Flt.enc)[i]?=some [.int .u8 f.model,.int .i64 f.node,.int .i64 f.pin,.int .u8 f.value,.int .i64 f.other]:=by rw[f0d,dp];rfl
         have c4:(t:Int)<ts.length:=by omega
         have jQ:=wI1 (n:=t) (by omega);have cZ:=e5w (D1 i) t;have gA:=c4t (D1 i) t;cases hDt:D1 i t with
         |false=>
          rw[hDt]at eu cZ;simp only[f0j (show ¬false=true by decide),e9n]at cZ;obtain⟨L0,mp⟩:∃L0,dts (D1 i) t=L0:=⟨_,rfl⟩
          rw[mp]at cZ⊢;have gy:=a0e (b58 L0);have mi:=λπ=>a0b π (b58 L0);cases L0 with
          |nil=>
           simp only[e9p,a0q,a0r]
           (repeat first|simp only[ww]|(apply xa;simp+decide only[go_sem,c4,fQ,jm,oI,oK,eu,jQ,c11];rfl;kernel_rfl))
           refine a0p (ts.length-(t+1)) (by omega) ⟨_,[],?_,t+1,rfl,jm,rfl,by rw[cZ];rfl⟩;rw[cZ]
           (simp+decide only[go_sem,a03,a00,e9p,a0q,a0r]<;>rfl)<;>rfl
          |cons a r=>
           simp only[e12,a06,a07];simp only[e12]at gy mi
           (repeat first|simp only[ww]|(apply xa;simp+decide only[go_sem,c4,fQ,jm,oI,oK,eu,jQ,c11];rfl;kernel_rfl))
           refine a0p (ts.length-(t+1)) (by omega) ⟨_,[some (.row 1 (a0d a::r.map a0d))],?_,t+1,rfl,jm,rfl,by rw[cZ];rfl⟩;rw[cZ]
           (simp+decide only[go_sem,a03,a00,e12,a06,a07,gy,mi]<;>rfl)<;>rfl
         |true=>
          rw[hDt]at eu cZ;simp only[f1r rfl]at cZ;obtain⟨L0,mp⟩:∃L0,dts (D1 i) t=L0:=⟨_,rfl⟩
          rw[mp]at cZ gA⊢;have li:∀x,a0d x=[.int .i64 x]:=λ_=>rfl;cases L0 with
          |nil=>
           simp only[e9p,a0q,a0r]
           (repeat first|simp only[ww]|(apply xa;simp+decide only[go_sem,c4,fQ,jm,oI,oK,eu,jQ,c11];rfl;kernel_rfl))
           refine a0p (ts.length-(t+1)) (by omega) ⟨_,[some (.row 1 [a0d t])],?_,t+1,rfl,jm,rfl,by rw[cZ];rfl⟩;rw[cZ]
           (simp+decide only[go_sem,a03,a00,e9q,e12,e9p,a06,a07,f0g,li]<;>rfl)<;>rfl
          |cons a r=>
           simp only[e9m]at gA;have gy:=a0e (b58 r);have mi:=λπ=>a0b π (b58 r);have jo:r.length+1+1≤1000000000:=by omega
           simp only[e12,a06,a07]
           (repeat first|simp only[ww]|(apply xa;simp+decide only[go_sem,c4,fQ,jm,oI,oK,eu,jQ,jo,e9m,c11];rfl;kernel_rfl))
           refine a0p (ts.length-(t+1)) (by omega) ⟨_,[some (.row 1 (a0d a::(r.map a0d++[a0d t])))],?_,t+1,rfl,jm,rfl,by rw[cZ];simp[grH]⟩;rw[cZ]
           (simp+decide only[go_sem,a03,a00,f0k,f2o,e12,e9p,a06,a07,f1o,e9m,f0g,c11,gy,mi,li,List.flatMap_append,f4c,List.flatMap_nil]<;>rfl)<;>rfl
        ·obtain rfl:t=ts.length:=by omega
         have c4:¬(ts.length:Int)<ts.length:=by omega
         obtain⟨L0,mp⟩:∃L0,dts (D1 i) ts.length=L0:=⟨_,rfl⟩
         have lK:=λk g hg h=>od i k g hg fQ h;rw[mp]at ga uh⊢;simp only[mp]at lK;have ol:∀(d:Bool) (H:a02) (b:Nat) (c:Option Nat),a01 H b=some (.row 1 (L0.map a0d))→a09 L.env d (sem L.env Mf) (.func (.func 13) [] []) [sl (cL L0) (L0.map a0d),.slice b 0 L0.length c] H=some (.int .i64 0,H,[b]):=λd H b c h=>by rw[←c07];exact d0i (by omega) h
         have e8:L0.length≤1000000000:=by omega
         have kI:=e95 L0;obtain⟨XL,qK⟩:∃X,sl (cL L0) (L0.map a0d)=X:=⟨_,rfl⟩
         have iB:=ga;rw[qK]at iB;have sx:RV L0 XL:=by rw[←qK];exact c8n L0
         clear qK;cases L0 with
         |nil=>
          simp only[e9p,f0g]at ol ga;simp only[e9p,a0q,a0r]
          (repeat first|simp only[ww]|(apply xa;simp+decide only[go_sem,c4,c11];rfl;kernel_rfl))
          (repeat first|simp only[ww]|((with_reducible first|apply xs2|apply xI);(·simp+decide only[go_sem,fQ,ga,ol,e9p,c11,f3b];rfl);with_reducible first|apply xT|apply xF|(·kernel_rfl)))
          (repeat first|simp only[ww]|(apply xa;simp+decide only[go_sem];rfl;kernel_rfl))
          refine a1x kp3_8 (λN F H=>∃k:Nat,N=gs.length-k∧k≤gs.length∧F=[(7,.iptr [sl c.nc (c.nodes.map Nd.enc),sl c.mc (c.names.map a1s),.nilslice,sl c.oc (c.outs.map a0d)]),(8,sl none (fs.map Flt.enc)),(11,sl none (ts.map Cb.cells)),(13,.islice ((List.range fs.length).map λj=>[lsV (dts (D1 j) ts.length)]) (some fs.length)),(16,sl (cL gs) (gs.map λg=>[lsV g])),(18,.islice ((List.range fs.length).map λj=>[lsV (dts (D2 j) gs.length)]) (some fs.length)),(20,.int .i64 i),(25,.int .i64 k)]∧H=[]) gs.length ?_ ?_
          ·refine⟨_,[],?_,0,rfl,f0h _,rfl,rfl⟩
           (simp+decide only[go_sem,a03,a00]<;>rfl)<;>rfl
          ·rintro N F H ⟨k,rfl,lg,rfl,rfl⟩
           by_cases bw:k<gs.length
           ·obtain⟨g,hg⟩:∃g,gs[k]?=some g:=⟨_,z9e bw⟩
            have iP:=(oa.ne g (c10 hg)).2;have kT:(gs.map λg=>[lsV g])[k]?=some [sl (cL g) (g.map a0d)]:=by rw[f0d,hg,f0e,c07]
            have iF:=λ(d:Bool)=>b68 (d:=d) sx (by first|omega|simp|(simp at *;omega)) (c8n g).ri (by omega);have dG:=λ(d:Bool)=>c2o (d:=d) (c8n (dts (D2 i) gs.length)).ri (by omega) k;rw[a33]at iF dG;have c5:(k:Int)<gs.length:=by omega
            have jk:=wI1 (n:=k) (by omega);cases dm:a6l [] g with
            |true=>
             have nJ:=lK k g hg dm;rw[dm]at iF;rw[nJ]at dG
             (repeat first|simp only[ww]|(apply xa;simp+decide only[go_sem,c5,c11];rfl;kernel_rfl))
             (repeat first|simp only[ww]|((with_reducible first|apply xs2|apply xI);(·simp+decide only[go_sem,fQ,bw,jk,iB,jq,kT,iF,dG,c11,f3b];rfl);with_reducible first|apply xT|apply xF|(·kernel_rfl)))
             (repeat first|simp only[ww]|(apply xa;simp+decide only[go_sem,jk];rfl;kernel_rfl))
             refine a0p (gs.length-(k+1)) (by omega) ⟨_,[],?_,k+1,rfl,bw,rfl,rfl⟩
             (simp+decide only[go_sem,a03,a00]<;>rfl)<;>rfl
            |false=>
             rw[dm]at iF
             (repeat first|simp only[ww]|(apply xa;simp+decide only[go_sem,c5,c11];rfl;kernel_rfl))
             (repeat first|simp only[ww]|((with_reducible first|apply xs2|apply xI);(·simp+decide only[go_sem,fQ,bw,jk,iB,jq,kT,iF,c11,f3b];rfl);with_reducible first|apply xT|apply xF|(·kernel_rfl)))
             (repeat first|simp only[ww]|(apply xa;simp+decide only[go_sem,jk];rfl;kernel_rfl))
             refine a0p (gs.length-(k+1)) (by omega) ⟨_,[],?_,k+1,rfl,bw,rfl,rfl⟩
             (simp+decide only[go_sem,a03,a00]<;>rfl)<;>rfl
           ·obtain rfl:k=gs.length:=by omega
            have c5:¬(gs.length:Int)<gs.length:=by omega
            (repeat first|simp only[ww]|(apply xa;simp+decide only[go_sem,c5,bO,c11];rfl;kernel_rfl))
            refine a0p (fs.length-(i+1)) (by omega) ⟨_,[],?_,i+1,rfl,fQ,rfl,rfl⟩
            (simp+decide only[go_sem,a03,a00]<;>rfl)<;>rfl
         |cons a r=>
          have oD:¬(a::r).length≤0:=by simp
          simp only[e12,e9m]at ol e8 kI oD;simp only[e12]at ga;simp only[e12,a06,a07]
          (repeat first|simp only[ww]|(apply xa;simp+decide only[go_sem,c4,c11];rfl;kernel_rfl))
          have li:a0d a=[.int .i64 a]:=rfl;rw[li]at ga kI;simp only[li]at ol
          (repeat first|simp only[ww]|((with_reducible first|apply xs2|apply xI);(·simp+decide only[go_sem,fQ,ga,ol,oD,e8,kI,c11,f3b,e9m];rfl);with_reducible first|apply xT|apply xF|(·kernel_rfl)))
          (repeat first|simp only[ww]|(apply xa;simp+decide only[go_sem];rfl;kernel_rfl))
          refine a1x kp3_8 (λN F H=>∃k:Nat,N=gs.length-k∧k≤gs.length∧F=[(7,.iptr [sl c.nc (c.nodes.map Nd.enc),sl c.mc (c.names.map a1s),.nilslice,sl c.oc (c.outs.map a0d)]),(8,sl none (fs.map Flt.enc)),(11,sl none (ts.map Cb.cells)),(13,.islice ((List.range fs.length).map λj=>[lsV (dts (D1 j) ts.length)]) (some fs.length)),(16,sl (cL gs) (gs.map λg=>[lsV g])),(18,.islice ((List.range fs.length).map λj=>[lsV (dts (D2 j) gs.length)]) (some fs.length)),(20,.int .i64 i),(25,.int .i64 k)]∧H=[]) gs.length ?_ ?_
          ·refine⟨_,[],?_,0,rfl,f0h _,rfl,rfl⟩
           (simp+decide only[go_sem,a03,a00]<;>rfl)<;>rfl
          ·rintro N F H ⟨k,rfl,lg,rfl,rfl⟩
           by_cases bw:k<gs.length
           ·obtain⟨g,hg⟩:∃g,gs[k]?=some g:=⟨_,z9e bw⟩
            have iP:=(oa.ne g (c10 hg)).2;have kT:(gs.map λg=>[lsV g])[k]?=some [sl (cL g) (g.map a0d)]:=by rw[f0d,hg,f0e,c07]
            have iF:=λ(d:Bool)=>b68 (d:=d) sx (by first|omega|simp|(simp at *;omega)) (c8n g).ri (by omega);have dG:=λ(d:Bool)=>c2o (d:=d) (c8n (dts (D2 i) gs.length)).ri (by omega) k;rw[a33]at iF dG;have c5:(k:Int)<gs.length:=by omega
            have jk:=wI1 (n:=k) (by omega);cases dm:a6l (a::r) g with
            |true=>
             have nJ:=lK k g hg dm;rw[dm]at iF;rw[nJ]at dG
             (repeat first|simp only[ww]|(apply xa;simp+decide only[go_sem,c5,c11];rfl;kernel_rfl))
             (repeat first|simp only[ww]|((with_reducible first|apply xs2|apply xI);(·simp+decide only[go_sem,fQ,bw,jk,iB,jq,kT,iF,dG,c11,f3b];rfl);with_reducible first|apply xT|apply xF|(·kernel_rfl)))
             (repeat first|simp only[ww]|(apply xa;simp+decide only[go_sem,jk];rfl;kernel_rfl))
             refine a0p (gs.length-(k+1)) (by omega) ⟨_,[],?_,k+1,rfl,bw,rfl,rfl⟩
             (simp+decide only[go_sem,a03,a00]<;>rfl)<;>rfl
            |false=>
             rw[dm]at iF
             (repeat first|simp only[ww]|(apply xa;simp+decide only[go_sem,c5,c11];rfl;kernel_rfl))
             (repeat first|simp only[ww]|((with_reducible first|apply xs2|apply xI);(·simp+decide only[go_sem,fQ,bw,jk,iB,jq,kT,iF,c11,f3b];rfl);with_reducible first|apply xT|apply xF|(·kernel_rfl)))
             (repeat first|simp only[ww]|(apply xa;simp+decide only[go_sem,jk];rfl;kernel_rfl))
             refine a0p (gs.length-(k+1)) (by omega) ⟨_,[],?_,k+1,rfl,bw,rfl,rfl⟩
             (simp+decide only[go_sem,a03,a00]<;>rfl)<;>rfl
           ·obtain rfl:k=gs.length:=by omega
            have c5:¬(gs.length:Int)<gs.length:=by omega
            (repeat first|simp only[ww]|(apply xa;simp+decide only[go_sem,c5,bO,c11];rfl;kernel_rfl))
            refine a0p (fs.length-(i+1)) (by omega) ⟨_,[],?_,i+1,rfl,fQ,rfl,rfl⟩
            (simp+decide only[go_sem,a03,a00]<;>rfl)<;>rfl
      ·obtain rfl:i=fs.length:=by omega
       have c3:¬(fs.length:Int)<fs.length:=by omega
       (repeat first|simp only[ww]|(apply xa;simp+decide only[go_sem,c3,l9,c11];rfl;kernel_rfl))
       refine a1v (vs:=[.bool true]) (r:=(_,_)) (by simp+decide only[go_sem]) ?_ rfl;simp+decide only[go_sem,a10]<;>rfl
end Go.QInst
